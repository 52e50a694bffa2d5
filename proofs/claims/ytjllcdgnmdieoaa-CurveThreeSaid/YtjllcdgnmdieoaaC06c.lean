/- What the functions of package field do: less p, a number's bytes, what a number times comes to 1. Conditions: a number as it is kept. -/
import Derived.Test.YtjllcdgnmdieoaaC06b
namespace Go.Proofs.Ytjllcdgnmdieoaa
open Go.RowKit Go.PBYtjllcdgnmdieoaa
set_option linter.unusedVariables false
set_option linter.unusedSimpArgs false
set_option maxRecDepth 10000

set_option maxHeartbeats 2000000 in
theorem less_calls (e : List Int) (he : okE e) (w : World) :
    Calls Try.prog 32 #[.agg (i64s e).toArray] w fun e' w' => e' = .returned (.tuple #[.agg (i64s (lessSt e 16).1).toArray, .bool (decide ((lessSt e 16).2 = 1))]) ∧ Kept [] w w' := by
  have hel := he.1
  have hll := lessSt_length e 16
  refine enter (n := 37) (R := fun e' L => e' = .returned (.tuple #[.agg (i64s (lessSt e 16).1).toArray, .bool (decide ((lessSt e 16).2 = 1))])) [.agg (i64s e).toArray] Try.func32 rfl rfl rfl (St.refl w) ?_ (fun e w' L' h H => ⟨h, H.kept⟩)
  refine VC_seq ?_
  refine VC_region ?_
  refine l_boxA rfl rfl ?_
  intro b1
  refine l_allocA zr37 rfl ?_
  intro b2
  refine vl_v (q_assign rfl) rfl ?_
  refine vl_nil ?_
  refine (th_n ?_)
  refine VC_seq ?_
  refine VC_region ?_
  refine l_allocA zr37 rfl ?_
  intro b4
  refine vl_nil ?_
  refine (th_n ?_)
  refine VC_seq ?_
  refine VC_region ?_
  refine vl_v (q_assign rfl) rfl ?_
  refine vl_nil ?_
  refine (th_n ?_)
  refine VC_seq ?_
  refine VC_seq ?_
  refine VC_region ?_
  refine vl_v (q_fldA fo37_0 (by decide) rfl rfl) rfl ?_
  refine vl_v (q_loads 2 Try.underlying35 rfl rfl rfl sz35 (by rw [i64s_length]; exact hel)) rfl ?_
  refine vl_v (q_move rfl) rfl ?_
  refine vl_nil ?_
  refine (th_n ?_)
  refine VC_block ?_
  refine VC_loop (ι := Nat) (fun i => i ≤ 16) (fun i => [(1, vP b1 0), (2, vP b2 0), (3, .bool false), (4, vP b4 0), (5, vI (lessSt e i).2), (10, .agg (i64s e).toArray), (11, vN i)]) (fun i => [.blk b4 37 (i64s (lessSt e i).1), .blk b2 37 (i64s (List.replicate 16 0)), .blk b1 37 (i64s e)]) (fun i => 16 - i) 0 (by omega) (Sub.cons (s := 1) rfl (Sub.cons (s := 2) rfl (Sub.cons (s := 3) rfl (Sub.cons (s := 4) rfl (Sub.cons (s := 5) rfl (Sub.cons (s := 10) rfl (Sub.cons (s := 11) rfl (Sub.nil _)))))))) (fun w H => H) ?_
  rintro i hp
  have hl := lessSt_length e i
  refine VC_seq ?_
  refine VC_region ?_
  first | (refine vl_v (q_lss_n (q := 16) Try.underlying3 rfl rfl) rfl ?_) | (refine vl_v (q_lss_k Try.underlying3 rfl rfl) rfl ?_)
  refine vl_nil ?_
  refine (th_n ?_)
  refine VC_seq ?_
  refine VC_cond rfl (fun ht12 => ?_) (fun ht12 => ?_)
  · skip
    have ht12 := of_decide_eq_true ht12
    refine VC_skip ?_
    refine (th_n ?_)
    refine VC_seq ?_
    refine VC_block ?_
    refine VC_seq ?_
    have ht12 : i < 16 := ht12
    have h1 := he.all i ht12
    have hpd : 0 ≤ pD i ∧ pD i ≤ 65535 := by unfold pD; split <;> (try split) <;> omega
    have hod := lessSt_owed e i
    refine VC_region ?_
    refine vl_v (q_move rfl) rfl ?_
    refine vl_v (q_idxV (m := i) Try.underlying35 Try.underlying2 rfl sz2 rfl rfl (by omega) (i64s_atT (by omega))) rfl ?_
    refine vl_v (q_assign rfl) rfl ?_
    refine vl_v (q_assign rfl) rfl ?_
    refine vl_nil ?_
    refine (th_n ?_)
    refine VC_seq ?_
    refine VC_region ?_
    refine vl_v (q_assign rfl) rfl ?_
    refine vl_nil ?_
    refine (th_n ?_)
    refine VC_seq ?_
    refine VC_seq ?_
    refine VC_region ?_
    refine vl_v (q_move rfl) rfl ?_
    refine vl_nil ?_
    refine (th_n ?_)
    refine VC_block ?_
    refine VC_seq ?_
    refine VC_region ?_
    first | (refine vl_v (q_eql_n (q := 0) Try.underlying3 rfl rfl) rfl ?_) | (refine vl_v (q_eql_k Try.underlying3 rfl rfl) rfl ?_)
    refine vl_v (q_assign rfl) rfl ?_
    refine vl_nil ?_
    refine (th_n ?_)
    refine VC_cond rfl (fun ht16 => ?_) (fun ht16 => ?_)
    · skip
      have ht16 : i = 0 := of_decide_eq_true ht16
      refine VC_region ?_
      refine vl_v (q_as (v := vI (pD i)) (q_assign rfl) (by rw [ht16]; rfl)) rfl ?_
      refine vl_nil ?_
      refine (bl_n (th_n ?_))
      refine VC_seq ?_
      refine VC_region ?_
      refine vl_v (q_move rfl) rfl ?_
      refine vl_v (q_as (v := vI (pD i)) (q_move rfl) (by first | rfl | (unfold pD; rw [if_neg ht16, if_neg ht18]))) rfl ?_
      refine vl_v (q_move rfl) rfl ?_
      refine vl_v (q_add_i rfl rfl (by omega) (by omega)) rfl ?_
      refine vl_v (q_sub_i rfl rfl (by omega) (by omega)) rfl ?_
      refine vl_v (q_assign rfl) rfl ?_
      refine vl_nil ?_
      refine (th_n ?_)
      refine VC_seq ?_
      refine VC_region ?_
      refine vl_v (q_move rfl) rfl ?_
      refine vl_v (q_shr_i (m := 16) rfl rfl (by decide)) rfl ?_
      refine vl_v (q_and_i 1 (by decide) (by decide) rfl rfl) rfl ?_
      refine vl_v (q_assign rfl) rfl ?_
      refine vl_nil ?_
      refine (th_n ?_)
      refine VC_region ?_
      refine vl_v (q_move rfl) rfl ?_
      refine vl_v (q_move rfl) rfl ?_
      refine vl_v (q_and_i 16 (by decide) (by decide) rfl rfl) rfl ?_
      refine vl_v (q_fldA fo37_0 (by decide) rfl rfl) rfl ?_
      first | (refine vl_v (q_idxA Try.underlying35 sz2 rfl rfl (by omega) (r := _) (by rw [Nat.mul_one, Nat.zero_add])) rfl ?_) | (refine vl_v (q_idxA Try.underlying35 sz2 rfl rfl (by omega) rfl) rfl ?_)
      first | (refine l_stI 0 rfl rfl rfl sz2 (by first | omega | with_reducible assumption | (simp only [bys_length, u32s_length, u64s_length, i64s_length, n64s_length, List.length_append]; omega) | (simp only [List.length_set, List.length_replicate, List.length_map, List.length_append, bys_length, u32s_length, u64s_length, i64s_length, List.length_take, List.length_drop, List.length_cons, List.length_nil, *] <;> first | done | omega) | rfl) ?_) | (refine l_store1 0 rfl rfl rfl sz2 rfl (by first | decide | simp) ?_)
      simp only [List.set_cons_zero, List.set_cons_succ]
      refine vl_nil ?_
      refine (bl_n (th_n ?_))
      refine VC_region ?_
      first | (refine vl_v (q_add_n (q := 1) rfl rfl (by omega)) rfl ?_) | (refine vl_v (q_add_i rfl rfl (by omega) (by omega)) rfl ?_)
      refine vl_v (q_move rfl) rfl ?_
      refine vl_nil ?_
      refine (th_n ?_)
      refine ⟨i + 1, by omega, by omega, (Sub.cons (s := 1) rfl (Sub.cons (s := 2) rfl (Sub.cons (s := 3) rfl (Sub.cons (s := 4) rfl (Sub.cons (s := 5) rfl (Sub.cons (s := 10) rfl (Sub.cons (s := 11) rfl (Sub.nil _)))))))), fun w H => H⟩
    · skip
      have ht16 : ¬ i = 0 := of_decide_eq_false ht16
      refine VC_seq ?_
      refine VC_region ?_
      first | (refine vl_v (q_eql_n (q := 15) Try.underlying3 rfl rfl) rfl ?_) | (refine vl_v (q_eql_k Try.underlying3 rfl rfl) rfl ?_)
      refine vl_v (q_assign rfl) rfl ?_
      refine vl_nil ?_
      refine (th_n ?_)
      refine VC_cond rfl (fun ht18 => ?_) (fun ht18 => ?_)
      · skip
        have ht18 : i = 15 := of_decide_eq_true ht18
        refine VC_region ?_
        refine vl_v (q_as (v := vI (pD i)) (q_assign rfl) (by rw [ht18]; rfl)) rfl ?_
        refine vl_nil ?_
        refine (bl_n (th_n ?_))
        refine VC_seq ?_
        refine VC_region ?_
        refine vl_v (q_move rfl) rfl ?_
        refine vl_v (q_as (v := vI (pD i)) (q_move rfl) (by first | rfl | (unfold pD; rw [if_neg ht16, if_neg ht18]))) rfl ?_
        refine vl_v (q_move rfl) rfl ?_
        refine vl_v (q_add_i rfl rfl (by omega) (by omega)) rfl ?_
        refine vl_v (q_sub_i rfl rfl (by omega) (by omega)) rfl ?_
        refine vl_v (q_assign rfl) rfl ?_
        refine vl_nil ?_
        refine (th_n ?_)
        refine VC_seq ?_
        refine VC_region ?_
        refine vl_v (q_move rfl) rfl ?_
        refine vl_v (q_shr_i (m := 16) rfl rfl (by decide)) rfl ?_
        refine vl_v (q_and_i 1 (by decide) (by decide) rfl rfl) rfl ?_
        refine vl_v (q_assign rfl) rfl ?_
        refine vl_nil ?_
        refine (th_n ?_)
        refine VC_region ?_
        refine vl_v (q_move rfl) rfl ?_
        refine vl_v (q_move rfl) rfl ?_
        refine vl_v (q_and_i 16 (by decide) (by decide) rfl rfl) rfl ?_
        refine vl_v (q_fldA fo37_0 (by decide) rfl rfl) rfl ?_
        first | (refine vl_v (q_idxA Try.underlying35 sz2 rfl rfl (by omega) (r := _) (by rw [Nat.mul_one, Nat.zero_add])) rfl ?_) | (refine vl_v (q_idxA Try.underlying35 sz2 rfl rfl (by omega) rfl) rfl ?_)
        first | (refine l_stI 0 rfl rfl rfl sz2 (by first | omega | with_reducible assumption | (simp only [bys_length, u32s_length, u64s_length, i64s_length, n64s_length, List.length_append]; omega) | (simp only [List.length_set, List.length_replicate, List.length_map, List.length_append, bys_length, u32s_length, u64s_length, i64s_length, List.length_take, List.length_drop, List.length_cons, List.length_nil, *] <;> first | done | omega) | rfl) ?_) | (refine l_store1 0 rfl rfl rfl sz2 rfl (by first | decide | simp) ?_)
        simp only [List.set_cons_zero, List.set_cons_succ]
        refine vl_nil ?_
        refine (bl_n (th_n ?_))
        refine VC_region ?_
        first | (refine vl_v (q_add_n (q := 1) rfl rfl (by omega)) rfl ?_) | (refine vl_v (q_add_i rfl rfl (by omega) (by omega)) rfl ?_)
        refine vl_v (q_move rfl) rfl ?_
        refine vl_nil ?_
        refine (th_n ?_)
        refine ⟨i + 1, by omega, by omega, (Sub.cons (s := 1) rfl (Sub.cons (s := 2) rfl (Sub.cons (s := 3) rfl (Sub.cons (s := 4) rfl (Sub.cons (s := 5) rfl (Sub.cons (s := 10) rfl (Sub.cons (s := 11) rfl (Sub.nil _)))))))), fun w H => H⟩
      · skip
        have ht18 : ¬ i = 15 := of_decide_eq_false ht18
        refine VC_skip ?_
        refine (bl_n (th_n ?_))
        refine VC_seq ?_
        refine VC_region ?_
        refine vl_v (q_move rfl) rfl ?_
        refine vl_v (q_as (v := vI (pD i)) (q_move rfl) (by first | rfl | (unfold pD; rw [if_neg ht16, if_neg ht18]))) rfl ?_
        refine vl_v (q_move rfl) rfl ?_
        refine vl_v (q_add_i rfl rfl (by omega) (by omega)) rfl ?_
        refine vl_v (q_sub_i rfl rfl (by omega) (by omega)) rfl ?_
        refine vl_v (q_assign rfl) rfl ?_
        refine vl_nil ?_
        refine (th_n ?_)
        refine VC_seq ?_
        refine VC_region ?_
        refine vl_v (q_move rfl) rfl ?_
        refine vl_v (q_shr_i (m := 16) rfl rfl (by decide)) rfl ?_
        refine vl_v (q_and_i 1 (by decide) (by decide) rfl rfl) rfl ?_
        refine vl_v (q_assign rfl) rfl ?_
        refine vl_nil ?_
        refine (th_n ?_)
        refine VC_region ?_
        refine vl_v (q_move rfl) rfl ?_
        refine vl_v (q_move rfl) rfl ?_
        refine vl_v (q_and_i 16 (by decide) (by decide) rfl rfl) rfl ?_
        refine vl_v (q_fldA fo37_0 (by decide) rfl rfl) rfl ?_
        first | (refine vl_v (q_idxA Try.underlying35 sz2 rfl rfl (by omega) (r := _) (by rw [Nat.mul_one, Nat.zero_add])) rfl ?_) | (refine vl_v (q_idxA Try.underlying35 sz2 rfl rfl (by omega) rfl) rfl ?_)
        first | (refine l_stI 0 rfl rfl rfl sz2 (by first | omega | with_reducible assumption | (simp only [bys_length, u32s_length, u64s_length, i64s_length, n64s_length, List.length_append]; omega) | (simp only [List.length_set, List.length_replicate, List.length_map, List.length_append, bys_length, u32s_length, u64s_length, i64s_length, List.length_take, List.length_drop, List.length_cons, List.length_nil, *] <;> first | done | omega) | rfl) ?_) | (refine l_store1 0 rfl rfl rfl sz2 rfl (by first | decide | simp) ?_)
        simp only [List.set_cons_zero, List.set_cons_succ]
        refine vl_nil ?_
        refine (bl_n (th_n ?_))
        refine VC_region ?_
        first | (refine vl_v (q_add_n (q := 1) rfl rfl (by omega)) rfl ?_) | (refine vl_v (q_add_i rfl rfl (by omega) (by omega)) rfl ?_)
        refine vl_v (q_move rfl) rfl ?_
        refine vl_nil ?_
        refine (th_n ?_)
        refine ⟨i + 1, by omega, by omega, (Sub.cons (s := 1) rfl (Sub.cons (s := 2) rfl (Sub.cons (s := 3) rfl (Sub.cons (s := 4) rfl (Sub.cons (s := 5) rfl (Sub.cons (s := 10) rfl (Sub.cons (s := 11) rfl (Sub.nil _)))))))), fun w H => H⟩
  · skip
    have ht12 := of_decide_eq_false ht12
    obtain rfl : i = 16 := by omega
    refine VC_exit ?_
    refine (th_x (th_x (bl_xs (th_n ?_))))
    refine VC_seq ?_
    refine VC_region ?_
    first | (refine vl_v (q_loads 0 Try.underlying37 rfl rfl rfl sz37 (by first | omega | with_reducible assumption | (simp only [bys_length, u32s_length, u64s_length, i64s_length, n64s_length, List.length_append]; omega) | (simp only [List.length_set, List.length_replicate, List.length_map, List.length_append, bys_length, u32s_length, u64s_length, i64s_length, List.length_take, List.length_drop, List.length_cons, List.length_nil, *] <;> first | done | omega) | rfl)) rfl ?_) | (refine vl_v (q_loadsAt 0 Try.underlying37 rfl rfl rfl sz37 (by rfl) (by first | omega | with_reducible assumption | (simp only [bys_length, u32s_length, u64s_length, i64s_length, n64s_length, List.length_append]; omega) | (simp only [List.length_set, List.length_replicate, List.length_map, List.length_append, bys_length, u32s_length, u64s_length, i64s_length, List.length_take, List.length_drop, List.length_cons, List.length_nil, *] <;> first | done | omega) | rfl)) rfl ?_)
    refine vl_v (q_move rfl) rfl ?_
    refine vl_v (q_eql_k Try.underlying2 rfl rfl) rfl ?_
    refine l_storeA 1 rfl rfl rfl sz37 (by first | omega | with_reducible assumption | (simp only [bys_length, u32s_length, u64s_length, i64s_length, n64s_length, List.length_append]; omega) | (simp only [List.length_set, List.length_replicate, List.length_map, List.length_append, bys_length, u32s_length, u64s_length, i64s_length, List.length_take, List.length_drop, List.length_cons, List.length_nil, *] <;> first | done | omega) | rfl) (by first | with_reducible exact bys_one _ | with_reducible exact u32s_one _ | with_reducible exact u64s_one _ | with_reducible exact i64s_one _ | with_reducible exact n64s_one _ | exact bys_one _ | exact u32s_one _ | exact u64s_one _ | exact i64s_one _ | with_reducible assumption | exact one_all rfl | (refine app_one ?_ ?_ <;> first | exact bys_one _ | (simp; done))) (by first | omega | with_reducible assumption | (simp only [bys_length, u32s_length, u64s_length, i64s_length, n64s_length, List.length_append]; omega) | (simp only [List.length_set, List.length_replicate, List.length_map, List.length_append, bys_length, u32s_length, u64s_length, i64s_length, List.length_take, List.length_drop, List.length_cons, List.length_nil, *] <;> first | done | omega) | rfl) ?_
    simp only [List.set_cons_zero, List.set_cons_succ]
    refine vl_v (q_assign rfl) rfl ?_
    refine vl_nil ?_
    refine (th_n ?_)
    refine VC_ret ?_
    refine ⟨_, resC2 1 rfl Try.underlying37 rfl rfl rfl sz37 (by first | omega | with_reducible assumption | (simp only [bys_length, u32s_length, u64s_length, i64s_length, n64s_length, List.length_append]; omega) | (simp only [List.length_set, List.length_replicate, List.length_map, List.length_append, bys_length, u32s_length, u64s_length, i64s_length, List.length_take, List.length_drop, List.length_cons, List.length_nil, *] <;> first | done | omega) | rfl) rfl, ?_⟩
    exact rfl
theorem dig_okE {e : List Int} (h : dig e) : okE e := ⟨h.1, by have := h.2 0 (by omega); omega, fun j _ hj => h.2 j hj⟩
set_option maxHeartbeats 2000000 in
theorem key_calls (v : List Int) (hv : okE v) (w : World) :
    Calls Try.prog 22 #[.agg (i64s v).toArray] w fun e' w' => e' = .returned (.agg (bys (keyL v)).toArray) ∧ Kept [] w w' := by
  have hvl := hv.1
  have hkl := keyL_length v
  have hd := (carry3 hv).1
  have hs2 := (subN_dig hd 2).1
  refine enter (n := 43) (R := fun e' L => e' = .returned (.agg (bys (keyL v)).toArray)) [.agg (i64s v).toArray] Try.func22 rfl rfl rfl (St.refl w) ?_ (fun e w' L' h H => ⟨h, H.kept⟩)
  refine VC_seq ?_
  refine VC_region ?_
  refine l_boxA rfl rfl ?_
  intro b1
  refine l_allocA zr23 rfl ?_
  intro b2
  refine vl_nil ?_
  refine (th_n ?_)
  refine VC_seq ?_
  refine VC_seq ?_
  refine VC_region ?_
  refine vl_v (q_move rfl) rfl ?_
  refine vl_nil ?_
  refine (th_n ?_)
  refine VC_block ?_
  refine VC_loop (ι := Nat) (fun i => i ≤ 3) (fun i => [(1, vP b1 0), (2, vP b2 0), (8, vN i)]) (fun i => [.blk b1 37 (i64s (carryN v i)), .blk b2 23 (bys (List.replicate 32 0))]) (fun i => 3 - i) 0 (by omega) (Sub.cons (s := 1) rfl (Sub.cons (s := 2) rfl (Sub.cons (s := 8) rfl (Sub.nil _)))) (fun w H => St.pick H (ks := [1, 0]) (by decide) rfl) ?_
  rintro i hp
  refine VC_seq ?_
  refine VC_region ?_
  first | (refine vl_v (q_lss_n (q := 3) Try.underlying3 rfl rfl) rfl ?_) | (refine vl_v (q_lss_k Try.underlying3 rfl rfl) rfl ?_)
  refine vl_nil ?_
  refine (th_n ?_)
  refine VC_seq ?_
  refine VC_cond rfl (fun ht9 => ?_) (fun ht9 => ?_)
  · skip
    have ht9 := of_decide_eq_true ht9
    refine VC_skip ?_
    refine (th_n ?_)
    refine VC_seq ?_
    refine VC_block ?_
    refine VC_region ?_
    refine l_callE Try.func31 rfl rfl rfl (fun w1 H1 => carry_calls (carryN v i) b1 (carryN_okE hv i).1 (fun j hj => by have := (carryN_okE hv i).all j hj; omega) w1 H1) rfl ?_
    refine vl_nil ?_
    refine (bl_n (th_n ?_))
    refine VC_region ?_
    first | (refine vl_v (q_add_n (q := 1) rfl rfl (by omega)) rfl ?_) | (refine vl_v (q_add_i rfl rfl (by omega) (by omega)) rfl ?_)
    refine vl_v (q_move rfl) rfl ?_
    refine vl_nil ?_
    refine (th_n ?_)
    refine ⟨i + 1, by omega, by omega, (Sub.cons (s := 1) rfl (Sub.cons (s := 2) rfl (Sub.cons (s := 8) rfl (Sub.nil _)))), fun w H => H⟩
  · skip
    have ht9 := of_decide_eq_false ht9
    obtain rfl : i = 3 := by omega
    obtain ⟨a, ha⟩ : ∃ a, a = carryN v 3 := ⟨_, rfl⟩
    rw [← ha] at hd hs2
    rw [← ha]
    refine VC_exit ?_
    refine (th_x (th_x (bl_xs (th_n ?_))))
    refine VC_seq ?_
    refine VC_seq ?_
    refine VC_region ?_
    refine vl_v (q_move rfl) rfl ?_
    refine vl_nil ?_
    refine (th_n ?_)
    refine VC_block ?_
    refine VC_loop (ι := Nat) (fun i => i ≤ 2) (fun i => [(1, vP b1 0), (2, vP b2 0), (12, vN i)]) (fun i => [.blk b1 37 (i64s (subN a i)), .blk b2 23 (bys (List.replicate 32 0))]) (fun i => 2 - i) 0 (by omega) (Sub.cons (s := 1) rfl (Sub.cons (s := 2) rfl (Sub.cons (s := 12) rfl (Sub.nil _)))) (fun w H => H) ?_
    rintro i hp
    have hsd := subN_dig hd i
    have hsl := hsd.1
    have hll := lessSt_length (subN a i) 16
    refine VC_seq ?_
    refine VC_region ?_
    first | (refine vl_v (q_lss_n (q := 2) Try.underlying3 rfl rfl) rfl ?_) | (refine vl_v (q_lss_k Try.underlying3 rfl rfl) rfl ?_)
    refine vl_nil ?_
    refine (th_n ?_)
    refine VC_seq ?_
    refine VC_cond rfl (fun ht13 => ?_) (fun ht13 => ?_)
    · skip
      have ht13 := of_decide_eq_true ht13
      refine VC_skip ?_
      refine (th_n ?_)
      refine VC_seq ?_
      refine VC_block ?_
      refine VC_seq ?_
      refine VC_region ?_
      first | (refine vl_v (q_loads 0 Try.underlying37 rfl rfl rfl sz37 (by first | omega | with_reducible assumption | (simp only [bys_length, u32s_length, u64s_length, i64s_length, n64s_length, List.length_append]; omega) | (simp only [List.length_set, List.length_replicate, List.length_map, List.length_append, bys_length, u32s_length, u64s_length, i64s_length, List.length_take, List.length_drop, List.length_cons, List.length_nil, *] <;> first | done | omega) | rfl)) rfl ?_) | (refine vl_v (q_loadsAt 0 Try.underlying37 rfl rfl rfl sz37 (by rfl) (by first | omega | with_reducible assumption | (simp only [bys_length, u32s_length, u64s_length, i64s_length, n64s_length, List.length_append]; omega) | (simp only [List.length_set, List.length_replicate, List.length_map, List.length_append, bys_length, u32s_length, u64s_length, i64s_length, List.length_take, List.length_drop, List.length_cons, List.length_nil, *] <;> first | done | omega) | rfl)) rfl ?_)
      refine vl_v (q_callV Try.func32 rfl rfl rfl (fun w1 H1 => less_calls (subN a i) (dig_okE hsd) w1)) rfl ?_
      refine vl_v (q_move rfl) rfl ?_
      refine vl_v (q_ext rfl rfl) rfl ?_
      refine vl_v (q_ext rfl rfl) rfl ?_
      refine l_allocA zr37 rfl ?_
      intro b3
      refine l_storeA 0 rfl rfl rfl sz37 (by first | omega | with_reducible assumption | (simp only [bys_length, u32s_length, u64s_length, i64s_length, n64s_length, List.length_append]; omega) | (simp only [List.length_set, List.length_replicate, List.length_map, List.length_append, bys_length, u32s_length, u64s_length, i64s_length, List.length_take, List.length_drop, List.length_cons, List.length_nil, *] <;> first | done | omega) | rfl) (by first | with_reducible exact bys_one _ | with_reducible exact u32s_one _ | with_reducible exact u64s_one _ | with_reducible exact i64s_one _ | with_reducible exact n64s_one _ | exact bys_one _ | exact u32s_one _ | exact u64s_one _ | exact i64s_one _ | with_reducible assumption | exact one_all rfl | (refine app_one ?_ ?_ <;> first | exact bys_one _ | (simp; done))) (by first | omega | with_reducible assumption | (simp only [bys_length, u32s_length, u64s_length, i64s_length, n64s_length, List.length_append]; omega) | (simp only [List.length_set, List.length_replicate, List.length_map, List.length_append, bys_length, u32s_length, u64s_length, i64s_length, List.length_take, List.length_drop, List.length_cons, List.length_nil, *] <;> first | done | omega) | rfl) ?_
      simp only [List.set_cons_zero, List.set_cons_succ]
      refine vl_v (q_assign rfl) rfl ?_
      refine vl_nil ?_
      refine (th_n ?_)
      refine VC_seq ?_
      refine VC_region ?_
      refine vl_v (q_move rfl) rfl ?_
      refine vl_v (q_as (v := .bool (decide (¬ (lessSt (subN a i) 16).2 = 1))) (q_not rfl) (by simp)) rfl ?_
      refine vl_nil ?_
      refine (th_n ?_)
      refine VC_cond rfl (fun ht20 => ?_) (fun ht20 => ?_)
      · skip
        have ht20 := of_decide_eq_true ht20
        rw [show (lessSt (subN a i) 16).1 = subN a (i + 1) from (if_neg ht20).symm] at hll ⊢
        refine VC_region ?_
        first | (refine vl_v (q_loads 0 Try.underlying37 rfl rfl rfl sz37 (by first | omega | with_reducible assumption | (simp only [bys_length, u32s_length, u64s_length, i64s_length, n64s_length, List.length_append]; omega) | (simp only [List.length_set, List.length_replicate, List.length_map, List.length_append, bys_length, u32s_length, u64s_length, i64s_length, List.length_take, List.length_drop, List.length_cons, List.length_nil, *] <;> first | done | omega) | rfl)) rfl ?_) | (refine vl_v (q_loadsAt 0 Try.underlying37 rfl rfl rfl sz37 (by rfl) (by first | omega | with_reducible assumption | (simp only [bys_length, u32s_length, u64s_length, i64s_length, n64s_length, List.length_append]; omega) | (simp only [List.length_set, List.length_replicate, List.length_map, List.length_append, bys_length, u32s_length, u64s_length, i64s_length, List.length_take, List.length_drop, List.length_cons, List.length_nil, *] <;> first | done | omega) | rfl)) rfl ?_)
        refine l_storeA 1 rfl rfl rfl sz37 (by first | omega | with_reducible assumption | (simp only [bys_length, u32s_length, u64s_length, i64s_length, n64s_length, List.length_append]; omega) | (simp only [List.length_set, List.length_replicate, List.length_map, List.length_append, bys_length, u32s_length, u64s_length, i64s_length, List.length_take, List.length_drop, List.length_cons, List.length_nil, *] <;> first | done | omega) | rfl) (by first | with_reducible exact bys_one _ | with_reducible exact u32s_one _ | with_reducible exact u64s_one _ | with_reducible exact i64s_one _ | with_reducible exact n64s_one _ | exact bys_one _ | exact u32s_one _ | exact u64s_one _ | exact i64s_one _ | with_reducible assumption | exact one_all rfl | (refine app_one ?_ ?_ <;> first | exact bys_one _ | (simp; done))) (by first | omega | with_reducible assumption | (simp only [bys_length, u32s_length, u64s_length, i64s_length, n64s_length, List.length_append]; omega) | (simp only [List.length_set, List.length_replicate, List.length_map, List.length_append, bys_length, u32s_length, u64s_length, i64s_length, List.length_take, List.length_drop, List.length_cons, List.length_nil, *] <;> first | done | omega) | rfl) ?_
        simp only [List.set_cons_zero, List.set_cons_succ]
        refine vl_nil ?_
        refine (bl_n (th_n ?_))
        refine VC_region ?_
        first | (refine vl_v (q_add_n (q := 1) rfl rfl (by omega)) rfl ?_) | (refine vl_v (q_add_i rfl rfl (by omega) (by omega)) rfl ?_)
        refine vl_v (q_move rfl) rfl ?_
        refine vl_nil ?_
        refine (th_n ?_)
        refine ⟨i + 1, by omega, by omega, (Sub.cons (s := 1) rfl (Sub.cons (s := 2) rfl (Sub.cons (s := 12) rfl (Sub.nil _)))), fun w H => St.pick H (ks := [1, 2]) (by decide) rfl⟩
      · skip
        have ht20 := of_decide_eq_false ht20
        have ht20 := Decidable.not_not.1 ht20
        rw [show subN a i = subN a (i + 1) from (if_pos ht20).symm] at hsl ⊢
        refine VC_skip ?_
        refine (bl_n (th_n ?_))
        refine VC_region ?_
        first | (refine vl_v (q_add_n (q := 1) rfl rfl (by omega)) rfl ?_) | (refine vl_v (q_add_i rfl rfl (by omega) (by omega)) rfl ?_)
        refine vl_v (q_move rfl) rfl ?_
        refine vl_nil ?_
        refine (th_n ?_)
        refine ⟨i + 1, by omega, by omega, (Sub.cons (s := 1) rfl (Sub.cons (s := 2) rfl (Sub.cons (s := 12) rfl (Sub.nil _)))), fun w H => St.pick H (ks := [1, 2]) (by decide) rfl⟩
    · skip
      have ht13 := of_decide_eq_false ht13
      obtain rfl : i = 2 := by omega
      refine VC_exit ?_
      refine (th_x (th_x (bl_xs (th_n ?_))))
      refine VC_seq ?_
      refine VC_region ?_
      refine l_allocA zr23 rfl ?_
      intro b5
      refine vl_nil ?_
      refine (th_n ?_)
      refine VC_seq ?_
      refine VC_seq ?_
      refine VC_region ?_
      refine vl_v (q_fldA fo37_0 (by decide) rfl rfl) rfl ?_
      refine vl_v (q_loads 1 Try.underlying35 rfl rfl rfl sz35 (by rw [i64s_length]; exact hs2)) rfl ?_
      refine vl_v (q_move rfl) rfl ?_
      refine vl_nil ?_
      refine (th_n ?_)
      refine VC_block ?_
      refine VC_loop (ι := Nat) (fun i => i ≤ 16) (fun i => [(2, vP b2 0), (5, vP b5 0), (24, .agg (i64s (subN a 2)).toArray), (25, vN i)]) (fun i => [.blk b5 23 (bys (keySt (subN a 2) i)), .blk b2 23 (bys (List.replicate 32 0))]) (fun i => 16 - i) 0 (by omega) (Sub.cons (s := 2) rfl (Sub.cons (s := 5) rfl (Sub.cons (s := 24) rfl (Sub.cons (s := 25) rfl (Sub.nil _))))) (fun w H => St.pick H (ks := [0, 2]) (by decide) rfl) ?_
      rintro i hp
      have hkl2 := keySt_length (subN a 2) i
      refine VC_seq ?_
      refine VC_region ?_
      first | (refine vl_v (q_lss_n (q := 16) Try.underlying3 rfl rfl) rfl ?_) | (refine vl_v (q_lss_k Try.underlying3 rfl rfl) rfl ?_)
      refine vl_nil ?_
      refine (th_n ?_)
      refine VC_seq ?_
      refine VC_cond rfl (fun ht26 => ?_) (fun ht26 => ?_)
      · skip
        have ht26 := of_decide_eq_true ht26
        refine VC_skip ?_
        refine (th_n ?_)
        refine VC_seq ?_
        refine VC_block ?_
        refine VC_seq ?_
        have ht26 : i < 16 := ht26
        have hl3 : ((keySt (subN a 2) i).set (2 * i) (UInt8.ofNat ((subN a 2).getD i 0 % 256).toNat)).length = 32 := by rw [List.length_set, hkl2]
        refine VC_region ?_
        refine vl_v (q_move rfl) rfl ?_
        refine vl_v (q_idxV (m := i) Try.underlying35 Try.underlying2 rfl sz2 rfl rfl (by omega) (i64s_atT (by omega))) rfl ?_
        refine vl_v (q_assign rfl) rfl ?_
        refine vl_v (q_assign rfl) rfl ?_
        refine vl_nil ?_
        refine (th_n ?_)
        refine VC_region ?_
        refine vl_v (q_move rfl) rfl ?_
        first | (refine vl_v (q_mul_n (p := 2) rfl rfl (by omega)) rfl ?_) | (refine vl_v (q_mul_i rfl rfl (by omega) (by omega)) rfl ?_)
        refine vl_v (q_move rfl) rfl ?_
        first | (refine vl_v (q_mul_n (p := 2) rfl rfl (by omega)) rfl ?_) | (refine vl_v (q_mul_i rfl rfl (by omega) (by omega)) rfl ?_)
        first | (refine vl_v (q_add_n (q := 1) rfl rfl (by omega)) rfl ?_) | (refine vl_v (q_add_i rfl rfl (by omega) (by omega)) rfl ?_)
        refine vl_v (q_move rfl) rfl ?_
        refine vl_v (q_conv_ib Try.underlying2 Try.underlying5 rfl) rfl ?_
        refine vl_v (q_move rfl) rfl ?_
        refine vl_v (q_shr_i (m := 8) rfl rfl (by decide)) rfl ?_
        refine vl_v (q_conv_ib Try.underlying2 Try.underlying5 rfl) rfl ?_
        first | (refine vl_v (q_idxA Try.underlying23 sz5 rfl rfl (by omega) (r := _) (by rw [Nat.mul_one, Nat.zero_add])) rfl ?_) | (refine vl_v (q_idxA Try.underlying23 sz5 rfl rfl (by omega) rfl) rfl ?_)
        first | (refine l_stB 0 rfl rfl rfl sz5 (by first | omega | with_reducible assumption | (simp only [bys_length, u32s_length, u64s_length, i64s_length, n64s_length, List.length_append]; omega) | (simp only [List.length_set, List.length_replicate, List.length_map, List.length_append, bys_length, u32s_length, u64s_length, i64s_length, List.length_take, List.length_drop, List.length_cons, List.length_nil, *] <;> first | done | omega) | rfl) ?_) | (refine l_store1 0 rfl rfl rfl sz5 rfl (by first | decide | simp) ?_)
        simp only [List.set_cons_zero, List.set_cons_succ]
        first | (refine vl_v (q_idxA Try.underlying23 sz5 rfl rfl (by omega) (r := _) (by rw [Nat.mul_one, Nat.zero_add])) rfl ?_) | (refine vl_v (q_idxA Try.underlying23 sz5 rfl rfl (by omega) rfl) rfl ?_)
        first | (refine l_stB 0 rfl rfl rfl sz5 (by first | omega | with_reducible assumption | (simp only [bys_length, u32s_length, u64s_length, i64s_length, n64s_length, List.length_append]; omega) | (simp only [List.length_set, List.length_replicate, List.length_map, List.length_append, bys_length, u32s_length, u64s_length, i64s_length, List.length_take, List.length_drop, List.length_cons, List.length_nil, *] <;> first | done | omega) | rfl) ?_) | (refine l_store1 0 rfl rfl rfl sz5 rfl (by first | decide | simp) ?_)
        simp only [List.set_cons_zero, List.set_cons_succ]
        refine vl_nil ?_
        refine (bl_n (th_n ?_))
        refine VC_region ?_
        first | (refine vl_v (q_add_n (q := 1) rfl rfl (by omega)) rfl ?_) | (refine vl_v (q_add_i rfl rfl (by omega) (by omega)) rfl ?_)
        refine vl_v (q_move rfl) rfl ?_
        refine vl_nil ?_
        refine (th_n ?_)
        refine ⟨i + 1, by omega, by omega, (Sub.cons (s := 2) rfl (Sub.cons (s := 5) rfl (Sub.cons (s := 24) rfl (Sub.cons (s := 25) rfl (Sub.nil _))))), fun w H => H⟩
      · skip
        have ht26 := of_decide_eq_false ht26
        obtain rfl : i = 16 := by omega
        rw [show keySt (subN a 2) 16 = keyL v by rw [keyL, ha]]
        refine VC_exit ?_
        refine (th_x (th_x (bl_xs (th_n ?_))))
        refine VC_seq ?_
        refine VC_region ?_
        first | (refine vl_v (q_loads 0 Try.underlying23 rfl rfl rfl sz23 (by first | omega | with_reducible assumption | (simp only [bys_length, u32s_length, u64s_length, i64s_length, n64s_length, List.length_append]; omega) | (simp only [List.length_set, List.length_replicate, List.length_map, List.length_append, bys_length, u32s_length, u64s_length, i64s_length, List.length_take, List.length_drop, List.length_cons, List.length_nil, *] <;> first | done | omega) | rfl)) rfl ?_) | (refine vl_v (q_loadsAt 0 Try.underlying23 rfl rfl rfl sz23 (by rfl) (by first | omega | with_reducible assumption | (simp only [bys_length, u32s_length, u64s_length, i64s_length, n64s_length, List.length_append]; omega) | (simp only [List.length_set, List.length_replicate, List.length_map, List.length_append, bys_length, u32s_length, u64s_length, i64s_length, List.length_take, List.length_drop, List.length_cons, List.length_nil, *] <;> first | done | omega) | rfl)) rfl ?_)
        refine l_storeA 1 rfl rfl rfl sz23 (by first | omega | with_reducible assumption | (simp only [bys_length, u32s_length, u64s_length, i64s_length, n64s_length, List.length_append]; omega) | (simp only [List.length_set, List.length_replicate, List.length_map, List.length_append, bys_length, u32s_length, u64s_length, i64s_length, List.length_take, List.length_drop, List.length_cons, List.length_nil, *] <;> first | done | omega) | rfl) (by first | with_reducible exact bys_one _ | with_reducible exact u32s_one _ | with_reducible exact u64s_one _ | with_reducible exact i64s_one _ | with_reducible exact n64s_one _ | exact bys_one _ | exact u32s_one _ | exact u64s_one _ | exact i64s_one _ | with_reducible assumption | exact one_all rfl | (refine app_one ?_ ?_ <;> first | exact bys_one _ | (simp; done))) (by first | omega | with_reducible assumption | (simp only [bys_length, u32s_length, u64s_length, i64s_length, n64s_length, List.length_append]; omega) | (simp only [List.length_set, List.length_replicate, List.length_map, List.length_append, bys_length, u32s_length, u64s_length, i64s_length, List.length_take, List.length_drop, List.length_cons, List.length_nil, *] <;> first | done | omega) | rfl) ?_
        simp only [List.set_cons_zero, List.set_cons_succ]
        refine vl_nil ?_
        refine (th_n ?_)
        refine VC_ret ?_
        refine ⟨_, resC1 1 rfl Try.underlying23 rfl rfl rfl sz23 (by first | omega | with_reducible assumption | (simp only [bys_length, u32s_length, u64s_length, i64s_length, n64s_length, List.length_append]; omega) | (simp only [List.length_set, List.length_replicate, List.length_map, List.length_append, bys_length, u32s_length, u64s_length, i64s_length, List.length_take, List.length_drop, List.length_cons, List.length_nil, *] <;> first | done | omega) | rfl), ?_⟩
        exact rfl
theorem invSt_no (e : List Int) (k : Nat) (h : ¬ (253 - k = 2 ∨ 253 - k = 4)) : mulL (mulL (invSt e k) (invSt e k)) e = invSt e (k + 1) := by
  conv => rhs; unfold invSt
  exact (if_neg h).symm
theorem invSt_yes (e : List Int) (k : Nat) (h : 253 - k = 2 ∨ 253 - k = 4) : mulL (invSt e k) (invSt e k) = invSt e (k + 1) := by
  conv => rhs; unfold invSt
  exact (if_pos h).symm
set_option maxHeartbeats 2000000 in
theorem inv_calls (e : List Int) (he : okE e) (w : World) :
    Calls Try.prog 21 #[.agg (i64s e).toArray] w fun e' w' => e' = .returned (.agg (i64s (invL e)).toArray) ∧ Kept [] w w' := by
  have hel := he.1
  have hil := (invL_okE he).1
  refine enter (n := 23) (R := fun e' L => e' = .returned (.agg (i64s (invL e)).toArray)) [.agg (i64s e).toArray] Try.func21 rfl rfl rfl (St.refl w) ?_ (fun e w' L' h H => ⟨h, H.kept⟩)
  refine VC_seq ?_
  refine VC_region ?_
  refine l_boxA rfl rfl ?_
  intro b1
  refine l_allocA zr37 rfl ?_
  intro b2
  refine vl_nil ?_
  refine (th_n ?_)
  refine VC_seq ?_
  refine VC_region ?_
  first | (refine vl_v (q_loads 1 Try.underlying37 rfl rfl rfl sz37 (by first | omega | with_reducible assumption | (simp only [bys_length, u32s_length, u64s_length, i64s_length, n64s_length, List.length_append]; omega) | (simp only [List.length_set, List.length_replicate, List.length_map, List.length_append, bys_length, u32s_length, u64s_length, i64s_length, List.length_take, List.length_drop, List.length_cons, List.length_nil, *] <;> first | done | omega) | rfl)) rfl ?_) | (refine vl_v (q_loadsAt 1 Try.underlying37 rfl rfl rfl sz37 (by rfl) (by first | omega | with_reducible assumption | (simp only [bys_length, u32s_length, u64s_length, i64s_length, n64s_length, List.length_append]; omega) | (simp only [List.length_set, List.length_replicate, List.length_map, List.length_append, bys_length, u32s_length, u64s_length, i64s_length, List.length_take, List.length_drop, List.length_cons, List.length_nil, *] <;> first | done | omega) | rfl)) rfl ?_)
  refine l_allocA zr37 rfl ?_
  intro b3
  refine l_storeA 0 rfl rfl rfl sz37 (by first | omega | with_reducible assumption | (simp only [bys_length, u32s_length, u64s_length, i64s_length, n64s_length, List.length_append]; omega) | (simp only [List.length_set, List.length_replicate, List.length_map, List.length_append, bys_length, u32s_length, u64s_length, i64s_length, List.length_take, List.length_drop, List.length_cons, List.length_nil, *] <;> first | done | omega) | rfl) (by first | with_reducible exact bys_one _ | with_reducible exact u32s_one _ | with_reducible exact u64s_one _ | with_reducible exact i64s_one _ | with_reducible exact n64s_one _ | exact bys_one _ | exact u32s_one _ | exact u64s_one _ | exact i64s_one _ | with_reducible assumption | exact one_all rfl | (refine app_one ?_ ?_ <;> first | exact bys_one _ | (simp; done))) (by first | omega | with_reducible assumption | (simp only [bys_length, u32s_length, u64s_length, i64s_length, n64s_length, List.length_append]; omega) | (simp only [List.length_set, List.length_replicate, List.length_map, List.length_append, bys_length, u32s_length, u64s_length, i64s_length, List.length_take, List.length_drop, List.length_cons, List.length_nil, *] <;> first | done | omega) | rfl) ?_
  simp only [List.set_cons_zero, List.set_cons_succ]
  refine vl_nil ?_
  refine (th_n ?_)
  refine VC_seq ?_
  refine VC_seq ?_
  refine VC_region ?_
  refine vl_v (q_assign rfl) rfl ?_
  refine vl_nil ?_
  refine (th_n ?_)
  refine VC_block ?_
  refine VC_loop (ι := Nat) (fun k => k ≤ 254) (fun k => [(1, vP b1 0), (2, vP b2 0), (3, vP b3 0), (4, vI (253 - (k : Int)))]) (fun k => [.blk b3 37 (i64s (invSt e k)), .blk b2 37 (i64s (List.replicate 16 0)), .blk b1 37 (i64s e)]) (fun k => 254 - k) 0 (by omega) (Sub.cons (s := 1) rfl (Sub.cons (s := 2) rfl (Sub.cons (s := 3) rfl (Sub.cons (s := 4) rfl (Sub.nil _))))) (fun w H => H) ?_
  rintro k hp
  have hok := invSt_okE he k
  have hkl := hok.1
  have hk2 := mulL_okE hok hok
  have hk2l := hk2.1
  have hk3l := (mulL_okE hk2 he).1
  refine VC_seq ?_
  refine VC_seq ?_
  refine VC_region ?_
  refine vl_v (q_move rfl) rfl ?_
  refine vl_v (q_geq_k (q := 0) Try.underlying3 rfl rfl) rfl ?_
  refine vl_nil ?_
  refine (th_n ?_)
  refine VC_cond rfl (fun ht7 => ?_) (fun ht7 => ?_)
  · skip
    have ht7 := of_decide_eq_true ht7
    refine VC_skip ?_
    refine (th_n ?_)
    refine VC_seq ?_
    refine VC_block ?_
    refine VC_seq ?_
    refine VC_region ?_
    first | (refine vl_v (q_loads 0 Try.underlying37 rfl rfl rfl sz37 (by first | omega | with_reducible assumption | (simp only [bys_length, u32s_length, u64s_length, i64s_length, n64s_length, List.length_append]; omega) | (simp only [List.length_set, List.length_replicate, List.length_map, List.length_append, bys_length, u32s_length, u64s_length, i64s_length, List.length_take, List.length_drop, List.length_cons, List.length_nil, *] <;> first | done | omega) | rfl)) rfl ?_) | (refine vl_v (q_loadsAt 0 Try.underlying37 rfl rfl rfl sz37 (by rfl) (by first | omega | with_reducible assumption | (simp only [bys_length, u32s_length, u64s_length, i64s_length, n64s_length, List.length_append]; omega) | (simp only [List.length_set, List.length_replicate, List.length_map, List.length_append, bys_length, u32s_length, u64s_length, i64s_length, List.length_take, List.length_drop, List.length_cons, List.length_nil, *] <;> first | done | omega) | rfl)) rfl ?_)
    first | (refine vl_v (q_loads 0 Try.underlying37 rfl rfl rfl sz37 (by first | omega | with_reducible assumption | (simp only [bys_length, u32s_length, u64s_length, i64s_length, n64s_length, List.length_append]; omega) | (simp only [List.length_set, List.length_replicate, List.length_map, List.length_append, bys_length, u32s_length, u64s_length, i64s_length, List.length_take, List.length_drop, List.length_cons, List.length_nil, *] <;> first | done | omega) | rfl)) rfl ?_) | (refine vl_v (q_loadsAt 0 Try.underlying37 rfl rfl rfl sz37 (by rfl) (by first | omega | with_reducible assumption | (simp only [bys_length, u32s_length, u64s_length, i64s_length, n64s_length, List.length_append]; omega) | (simp only [List.length_set, List.length_replicate, List.length_map, List.length_append, bys_length, u32s_length, u64s_length, i64s_length, List.length_take, List.length_drop, List.length_cons, List.length_nil, *] <;> first | done | omega) | rfl)) rfl ?_)
    refine vl_v (q_callV Try.func20 rfl rfl rfl (fun w1 H1 => mul_calls (invSt e k) (invSt e k) hok hok w1)) rfl ?_
    refine l_storeA 0 rfl rfl rfl sz37 (by first | omega | with_reducible assumption | (simp only [bys_length, u32s_length, u64s_length, i64s_length, n64s_length, List.length_append]; omega) | (simp only [List.length_set, List.length_replicate, List.length_map, List.length_append, bys_length, u32s_length, u64s_length, i64s_length, List.length_take, List.length_drop, List.length_cons, List.length_nil, *] <;> first | done | omega) | rfl) (by first | with_reducible exact bys_one _ | with_reducible exact u32s_one _ | with_reducible exact u64s_one _ | with_reducible exact i64s_one _ | with_reducible exact n64s_one _ | exact bys_one _ | exact u32s_one _ | exact u64s_one _ | exact i64s_one _ | with_reducible assumption | exact one_all rfl | (refine app_one ?_ ?_ <;> first | exact bys_one _ | (simp; done))) (by first | omega | with_reducible assumption | (simp only [bys_length, u32s_length, u64s_length, i64s_length, n64s_length, List.length_append]; omega) | (simp only [List.length_set, List.length_replicate, List.length_map, List.length_append, bys_length, u32s_length, u64s_length, i64s_length, List.length_take, List.length_drop, List.length_cons, List.length_nil, *] <;> first | done | omega) | rfl) ?_
    simp only [List.set_cons_zero, List.set_cons_succ]
    refine vl_nil ?_
    refine (th_n ?_)
    refine VC_seq ?_
    refine VC_region ?_
    refine vl_v (q_move rfl) rfl ?_
    refine vl_v (q_as (v := .bool (decide (¬ k = 251))) (q_neq_k (q := 2) Try.underlying3 rfl rfl) (by rw [show (!decide ((253 : Int) - (k : Int) = 2)) = decide (¬ k = 251) by rw [Bool.eq_iff_iff]; simp; omega])) rfl ?_
    by_cases hs14 : ¬ k = 251
    · skip
      rw [show decide (¬ k = 251) = true from decide_eq_true hs14]
      refine vl_v (q_move rfl) rfl ?_
      refine vl_vg rfl (q_move rfl) rfl ?_
      refine vl_vg rfl (q_as (v := .bool (decide (¬ k = 249))) (q_neq_k (q := 4) Try.underlying3 rfl rfl) (by rw [show (!decide ((253 : Int) - (k : Int) = 4)) = decide (¬ k = 249) by rw [Bool.eq_iff_iff]; simp; omega])) rfl ?_
      by_cases hs17 : ¬ k = 249
      · skip
        rw [show decide (¬ k = 249) = true from decide_eq_true hs17]
        first | (refine vl_v (q_pickT rfl rfl) rfl ?_) | (refine vl_v (q_pickF rfl rfl) rfl ?_)
        refine vl_nil ?_
        refine (th_n ?_)
        refine VC_yes (rfl) ?_
        refine VC_region ?_
        first | (refine vl_v (q_loads 0 Try.underlying37 rfl rfl rfl sz37 (by first | omega | with_reducible assumption | (simp only [bys_length, u32s_length, u64s_length, i64s_length, n64s_length, List.length_append]; omega) | (simp only [List.length_set, List.length_replicate, List.length_map, List.length_append, bys_length, u32s_length, u64s_length, i64s_length, List.length_take, List.length_drop, List.length_cons, List.length_nil, *] <;> first | done | omega) | rfl)) rfl ?_) | (refine vl_v (q_loadsAt 0 Try.underlying37 rfl rfl rfl sz37 (by rfl) (by first | omega | with_reducible assumption | (simp only [bys_length, u32s_length, u64s_length, i64s_length, n64s_length, List.length_append]; omega) | (simp only [List.length_set, List.length_replicate, List.length_map, List.length_append, bys_length, u32s_length, u64s_length, i64s_length, List.length_take, List.length_drop, List.length_cons, List.length_nil, *] <;> first | done | omega) | rfl)) rfl ?_)
        first | (refine vl_v (q_loads 2 Try.underlying37 rfl rfl rfl sz37 (by first | omega | with_reducible assumption | (simp only [bys_length, u32s_length, u64s_length, i64s_length, n64s_length, List.length_append]; omega) | (simp only [List.length_set, List.length_replicate, List.length_map, List.length_append, bys_length, u32s_length, u64s_length, i64s_length, List.length_take, List.length_drop, List.length_cons, List.length_nil, *] <;> first | done | omega) | rfl)) rfl ?_) | (refine vl_v (q_loadsAt 2 Try.underlying37 rfl rfl rfl sz37 (by rfl) (by first | omega | with_reducible assumption | (simp only [bys_length, u32s_length, u64s_length, i64s_length, n64s_length, List.length_append]; omega) | (simp only [List.length_set, List.length_replicate, List.length_map, List.length_append, bys_length, u32s_length, u64s_length, i64s_length, List.length_take, List.length_drop, List.length_cons, List.length_nil, *] <;> first | done | omega) | rfl)) rfl ?_)
        refine vl_v (q_callV Try.func20 rfl rfl rfl (fun w1 H1 => mul_calls (mulL (invSt e k) (invSt e k)) e hk2 he w1)) rfl ?_
        refine l_storeA 0 rfl rfl rfl sz37 (by first | omega | with_reducible assumption | (simp only [bys_length, u32s_length, u64s_length, i64s_length, n64s_length, List.length_append]; omega) | (simp only [List.length_set, List.length_replicate, List.length_map, List.length_append, bys_length, u32s_length, u64s_length, i64s_length, List.length_take, List.length_drop, List.length_cons, List.length_nil, *] <;> first | done | omega) | rfl) (by first | with_reducible exact bys_one _ | with_reducible exact u32s_one _ | with_reducible exact u64s_one _ | with_reducible exact i64s_one _ | with_reducible exact n64s_one _ | exact bys_one _ | exact u32s_one _ | exact u64s_one _ | exact i64s_one _ | with_reducible assumption | exact one_all rfl | (refine app_one ?_ ?_ <;> first | exact bys_one _ | (simp; done))) (by first | omega | with_reducible assumption | (simp only [bys_length, u32s_length, u64s_length, i64s_length, n64s_length, List.length_append]; omega) | (simp only [List.length_set, List.length_replicate, List.length_map, List.length_append, bys_length, u32s_length, u64s_length, i64s_length, List.length_take, List.length_drop, List.length_cons, List.length_nil, *] <;> first | done | omega) | rfl) ?_
        simp only [List.set_cons_zero, List.set_cons_succ]
        refine vl_nil ?_
        refine (bl_n (th_n ?_))
        refine VC_region ?_
        refine vl_v (q_move rfl) rfl ?_
        refine vl_v (q_sub_i rfl rfl (by omega) (by omega)) rfl ?_
        refine vl_v (q_assign rfl) rfl ?_
        refine vl_nil ?_
        refine (th_n ?_)
        first | rw [invSt_no e k (by omega)] | rw [invSt_yes e k (by omega)]
        refine ⟨k + 1, by omega, by omega, (Sub.cons (s := 1) rfl (Sub.cons (s := 2) rfl (Sub.cons (s := 3) rfl (Sub.cons (s := 4) (congrArg (fun x : Int => some (vI x)) (show (253 - (k : Int) - 1 : Int) = 253 - ((k + 1 : Nat) : Int) by omega)) (Sub.nil _))))), fun w H => H⟩
      · skip
        rw [show decide (¬ k = 249) = false from decide_eq_false hs17]
        first | (refine vl_v (q_pickT rfl rfl) rfl ?_) | (refine vl_v (q_pickF rfl rfl) rfl ?_)
        refine vl_nil ?_
        refine (th_n ?_)
        refine VC_no (rfl) ?_
        refine VC_skip ?_
        refine (bl_n (th_n ?_))
        refine VC_region ?_
        refine vl_v (q_move rfl) rfl ?_
        refine vl_v (q_sub_i rfl rfl (by omega) (by omega)) rfl ?_
        refine vl_v (q_assign rfl) rfl ?_
        refine vl_nil ?_
        refine (th_n ?_)
        first | rw [invSt_no e k (by omega)] | rw [invSt_yes e k (by omega)]
        refine ⟨k + 1, by omega, by omega, (Sub.cons (s := 1) rfl (Sub.cons (s := 2) rfl (Sub.cons (s := 3) rfl (Sub.cons (s := 4) (congrArg (fun x : Int => some (vI x)) (show (253 - (k : Int) - 1 : Int) = 253 - ((k + 1 : Nat) : Int) by omega)) (Sub.nil _))))), fun w H => H⟩
    · skip
      rw [show decide (¬ k = 251) = false from decide_eq_false hs14]
      refine vl_v (q_move rfl) rfl ?_
      refine vl_skip rfl rfl ?_
      refine vl_skip rfl rfl ?_
      first | (refine vl_v (q_pickT rfl rfl) rfl ?_) | (refine vl_v (q_pickF rfl rfl) rfl ?_)
      refine vl_nil ?_
      refine (th_n ?_)
      refine VC_no (rfl) ?_
      refine VC_skip ?_
      refine (bl_n (th_n ?_))
      refine VC_region ?_
      refine vl_v (q_move rfl) rfl ?_
      refine vl_v (q_sub_i rfl rfl (by omega) (by omega)) rfl ?_
      refine vl_v (q_assign rfl) rfl ?_
      refine vl_nil ?_
      refine (th_n ?_)
      first | rw [invSt_no e k (by omega)] | rw [invSt_yes e k (by omega)]
      refine ⟨k + 1, by omega, by omega, (Sub.cons (s := 1) rfl (Sub.cons (s := 2) rfl (Sub.cons (s := 3) rfl (Sub.cons (s := 4) (congrArg (fun x : Int => some (vI x)) (show (253 - (k : Int) - 1 : Int) = 253 - ((k + 1 : Nat) : Int) by omega)) (Sub.nil _))))), fun w H => H⟩
  · skip
    have ht7 := of_decide_eq_false ht7
    obtain rfl : k = 254 := by omega
    rw [show invSt e 254 = invL e from rfl]
    refine VC_exit ?_
    refine (th_x (th_x (bl_xs (th_n ?_))))
    refine VC_seq ?_
    refine VC_region ?_
    first | (refine vl_v (q_loads 0 Try.underlying37 rfl rfl rfl sz37 (by first | omega | with_reducible assumption | (simp only [bys_length, u32s_length, u64s_length, i64s_length, n64s_length, List.length_append]; omega) | (simp only [List.length_set, List.length_replicate, List.length_map, List.length_append, bys_length, u32s_length, u64s_length, i64s_length, List.length_take, List.length_drop, List.length_cons, List.length_nil, *] <;> first | done | omega) | rfl)) rfl ?_) | (refine vl_v (q_loadsAt 0 Try.underlying37 rfl rfl rfl sz37 (by rfl) (by first | omega | with_reducible assumption | (simp only [bys_length, u32s_length, u64s_length, i64s_length, n64s_length, List.length_append]; omega) | (simp only [List.length_set, List.length_replicate, List.length_map, List.length_append, bys_length, u32s_length, u64s_length, i64s_length, List.length_take, List.length_drop, List.length_cons, List.length_nil, *] <;> first | done | omega) | rfl)) rfl ?_)
    refine l_storeA 1 rfl rfl rfl sz37 (by first | omega | with_reducible assumption | (simp only [bys_length, u32s_length, u64s_length, i64s_length, n64s_length, List.length_append]; omega) | (simp only [List.length_set, List.length_replicate, List.length_map, List.length_append, bys_length, u32s_length, u64s_length, i64s_length, List.length_take, List.length_drop, List.length_cons, List.length_nil, *] <;> first | done | omega) | rfl) (by first | with_reducible exact bys_one _ | with_reducible exact u32s_one _ | with_reducible exact u64s_one _ | with_reducible exact i64s_one _ | with_reducible exact n64s_one _ | exact bys_one _ | exact u32s_one _ | exact u64s_one _ | exact i64s_one _ | with_reducible assumption | exact one_all rfl | (refine app_one ?_ ?_ <;> first | exact bys_one _ | (simp; done))) (by first | omega | with_reducible assumption | (simp only [bys_length, u32s_length, u64s_length, i64s_length, n64s_length, List.length_append]; omega) | (simp only [List.length_set, List.length_replicate, List.length_map, List.length_append, bys_length, u32s_length, u64s_length, i64s_length, List.length_take, List.length_drop, List.length_cons, List.length_nil, *] <;> first | done | omega) | rfl) ?_
    simp only [List.set_cons_zero, List.set_cons_succ]
    refine vl_nil ?_
    refine (th_n ?_)
    refine VC_ret ?_
    refine ⟨_, resC1 1 rfl Try.underlying37 rfl rfl rfl sz37 (by first | omega | with_reducible assumption | (simp only [bys_length, u32s_length, u64s_length, i64s_length, n64s_length, List.length_append]; omega) | (simp only [List.length_set, List.length_replicate, List.length_map, List.length_append, bys_length, u32s_length, u64s_length, i64s_length, List.length_take, List.length_drop, List.length_cons, List.length_nil, *] <;> first | done | omega) | rfl), ?_⟩
    exact rfl
end Go.Proofs.Ytjllcdgnmdieoaa
