/- What the document's own functions of the field do: the least number's bytes, what a number times comes to 1. Conditions: digits. -/
import Derived.Test.YtjllcdgnmdieoaaC06r
namespace Go.Proofs.Ytjllcdgnmdieoaa
open Go.RowKit Go.PBYtjllcdgnmdieoaa
set_option linter.unusedVariables false
set_option linter.unusedSimpArgs false
set_option maxRecDepth 10000

theorem prime_calls (i : Nat) (w : World) :
    Calls Try.prog 30 #[vN i] w fun e w' => e = .returned (vW (pDn i)) ∧ Kept [] w w' := by
  refine enter (n := 7) (R := fun e L => e = .returned (vW (pDn i))) [vN i] Try.func30 rfl rfl rfl (St.refl w) ?_ (fun e w' L' h H => ⟨h, H.kept⟩)
  refine VC_seq ?_
  refine VC_region ?_
  refine vl_v (q_assign rfl) rfl ?_
  refine vl_nil ?_
  refine (th_n ?_)
  refine VC_seq ?_
  refine VC_seq ?_
  refine VC_region ?_
  refine vl_v (q_move rfl) rfl ?_
  first | (refine vl_v (q_eql_n (q := 0) Try.underlying3 rfl rfl) rfl ?_) | (refine vl_v (q_eql_k Try.underlying3 rfl rfl) rfl ?_)
  refine vl_nil ?_
  refine (th_n ?_)
  refine VC_cond rfl (fun ht4 => ?_) (fun ht4 => ?_)
  · skip
    have ht4 : i = 0 := of_decide_eq_true ht4
    refine VC_seq ?_
    refine VC_region ?_
    refine vl_v (q_as (v := vW (pDn i)) (q_assign rfl) (by rw [ht4]; rfl)) rfl ?_
    refine vl_nil ?_
    refine (th_n ?_)
    refine VC_ret ?_
    refine (th_r ?_)
    refine ⟨_, res1 rfl rfl, ?_⟩
    exact rfl
  · skip
    have ht4 : ¬ i = 0 := of_decide_eq_false ht4
    refine VC_skip ?_
    refine (th_n ?_)
    refine VC_seq ?_
    refine VC_seq ?_
    refine VC_region ?_
    refine vl_v (q_move rfl) rfl ?_
    first | (refine vl_v (q_eql_n (q := 15) Try.underlying3 rfl rfl) rfl ?_) | (refine vl_v (q_eql_k Try.underlying3 rfl rfl) rfl ?_)
    refine vl_nil ?_
    refine (th_n ?_)
    refine VC_cond rfl (fun ht6 => ?_) (fun ht6 => ?_)
    · skip
      have ht6 : i = 15 := of_decide_eq_true ht6
      refine VC_seq ?_
      refine VC_region ?_
      refine vl_v (q_as (v := vW (pDn i)) (q_assign rfl) (by rw [ht6]; rfl)) rfl ?_
      refine vl_nil ?_
      refine (th_n ?_)
      refine VC_ret ?_
      refine (th_r ?_)
      refine ⟨_, res1 rfl rfl, ?_⟩
      exact rfl
    · skip
      have ht6 : ¬ i = 15 := of_decide_eq_false ht6
      refine VC_skip ?_
      refine (th_n ?_)
      refine VC_seq ?_
      refine VC_region ?_
      refine vl_v (q_as (v := vW (pDn i)) (q_assign rfl) (by unfold pDn; rw [if_neg ht4, if_neg ht6]; rfl)) rfl ?_
      refine vl_nil ?_
      refine (th_n ?_)
      refine VC_ret ?_
      refine ⟨_, res1 rfl rfl, ?_⟩
      exact rfl
set_option maxHeartbeats 2000000 in
theorem least_calls (n : List Nat) (hn : digN n) (w : World) :
    Calls Try.prog 29 #[.agg (n64s n).toArray] w fun e w' => e = .returned (.bool (leB n)) ∧ Kept [] w w' := by
  have hnl := hn.1
  refine enter (n := 20) (R := fun e L => e = .returned (.bool (leB n))) [.agg (n64s n).toArray] Try.func29 rfl rfl rfl (St.refl w) ?_ (fun e w' L' h H => ⟨h, H.kept⟩)
  refine VC_seq ?_
  refine VC_region ?_
  refine l_boxA rfl rfl ?_
  intro b1
  refine vl_v (q_assign rfl) rfl ?_
  refine vl_nil ?_
  refine (th_n ?_)
  refine VC_seq ?_
  refine VC_seq ?_
  refine VC_region ?_
  refine vl_v (q_assign rfl) rfl ?_
  refine vl_nil ?_
  refine (th_n ?_)
  refine VC_block ?_
  refine VC_loop (ι := Nat) (fun k => k ≤ 16 ∧ ∀ j, 16 - k ≤ j → j < 16 → n.getD j 0 = pDn j) (fun k => [(1, vP b1 0), (3, vI (15 - (k : Int)))]) (fun k => [.blk b1 33 (n64s n)]) (fun k => 16 - k) 0 (⟨by omega, fun j h1 h2 => by omega⟩) (Sub.cons (s := 1) rfl (Sub.cons (s := 3) rfl (Sub.nil _))) (fun w H => H) ?_
  rintro k hp
  obtain ⟨hp1, hp2⟩ := hp
  refine VC_seq ?_
  refine VC_seq ?_
  refine VC_region ?_
  refine vl_v (q_move rfl) rfl ?_
  refine vl_v (q_geq_k (q := 0) Try.underlying3 rfl rfl) rfl ?_
  refine vl_nil ?_
  refine (th_n ?_)
  refine VC_cond rfl (fun ht5 => ?_) (fun ht5 => ?_)
  · skip
    have ht5 := of_decide_eq_true ht5
    have hk15 : k ≤ 15 := by omega
    refine VC_skip ?_
    refine (th_n ?_)
    refine VC_seq ?_
    refine VC_block ?_
    refine VC_seq ?_
    refine VC_drawV 5 [[], [0], [1], [], [3], [2, 4]] [[], [0], [0, 1], [], [3], [0, 1, 2, 3, 4]] rfl (by kernel_rfl) ?_
    refine qv_v (q_as (v := vN (15 - k)) (q_move rfl) (by rw [show (15 - (k : Int)) = ((15 - k : Nat) : Int) by omega])) ?_
    first | (refine qv_v (q_idxA Try.underlying33 sz31 rfl rfl (by omega) (r := _) (by rw [Nat.mul_one, Nat.zero_add])) ?_) | (refine qv_v (q_idxA Try.underlying33 sz31 rfl rfl (by omega) rfl) ?_)
    first | (refine qv_v (q_load 0 Try.underlying31 rfl rfl rfl (n64s_at (by first | omega | with_reducible assumption | (simp only [bys_length, u32s_length, u64s_length, i64s_length, n64s_length, List.length_append]; omega) | (simp only [List.length_set, List.length_replicate, List.length_map, List.length_append, bys_length, u32s_length, u64s_length, i64s_length, List.length_take, List.length_drop, List.length_cons, List.length_nil, *] <;> first | done | omega) | rfl))) ?_) | (refine qv_v (q_load 0 Try.underlying31 rfl rfl rfl rfl) ?_)
    refine qv_v (q_as (v := vN (15 - k)) (q_move rfl) (by rw [show (15 - (k : Int)) = ((15 - k : Nat) : Int) by omega])) ?_
    refine qv_v (q_callV Try.func30 rfl rfl rfl (fun w1 H1 => prime_calls (15 - k) w1)) ?_
    refine qv_end ?_
    refine VL.keep (Sub.cons (s := 1) rfl (Sub.cons (s := 3) rfl (Sub.cons (s := 5) rfl (Sub.cons (s := 10) rfl (Sub.cons (s := 12) rfl (Sub.nil _)))))) ?_
    refine vl_v (q_as (v := .bool (decide (¬ n.getD (15 - k) 0 = pDn (15 - k)))) (q_neq_n Try.underlying31 rfl rfl) (by simp)) rfl ?_
    refine vl_nil ?_
    refine (qn_n (th_n ?_))
    refine VC_cond rfl (fun ht13 => ?_) (fun ht13 => ?_)
    · skip
      have ht13 := of_decide_eq_true ht13
      refine VC_seq ?_
      refine VC_drawV 5 [[], [0], [1], [], [3], [2, 4], [5, 4, 0, 1, 2, 3]] [[], [0], [0, 1], [], [3], [0, 1, 2, 3, 4], [0, 1, 2, 3, 4, 5]] rfl (by kernel_rfl) ?_
      refine qv_v (q_as (v := vN (15 - k)) (q_move rfl) (by rw [show (15 - (k : Int)) = ((15 - k : Nat) : Int) by omega])) ?_
      first | (refine qv_v (q_idxA Try.underlying33 sz31 rfl rfl (by omega) (r := _) (by rw [Nat.mul_one, Nat.zero_add])) ?_) | (refine qv_v (q_idxA Try.underlying33 sz31 rfl rfl (by omega) rfl) ?_)
      first | (refine qv_v (q_load 0 Try.underlying31 rfl rfl rfl (n64s_at (by first | omega | with_reducible assumption | (simp only [bys_length, u32s_length, u64s_length, i64s_length, n64s_length, List.length_append]; omega) | (simp only [List.length_set, List.length_replicate, List.length_map, List.length_append, bys_length, u32s_length, u64s_length, i64s_length, List.length_take, List.length_drop, List.length_cons, List.length_nil, *] <;> first | done | omega) | rfl))) ?_) | (refine qv_v (q_load 0 Try.underlying31 rfl rfl rfl rfl) ?_)
      refine qv_v (q_as (v := vN (15 - k)) (q_move rfl) (by rw [show (15 - (k : Int)) = ((15 - k : Nat) : Int) by omega])) ?_
      refine qv_v (q_callV Try.func30 rfl rfl rfl (fun w1 H1 => prime_calls (15 - k) w1)) ?_
      refine qv_end ?_
      refine VL.keep (Sub.cons (s := 1) rfl (Sub.cons (s := 3) rfl (Sub.cons (s := 5) rfl (Sub.cons (s := 13) rfl (Sub.cons (s := 16) rfl (Sub.cons (s := 18) rfl (Sub.nil _))))))) ?_
      refine vl_v (q_as (v := .bool (leB n)) (q_gtr_n Try.underlying31 rfl rfl) (by rw [leB_top hn (15 - k) (by omega) (fun j h1 h2 => hp2 j (by omega) h2) ht13])) rfl ?_
      refine vl_v (q_assign rfl) rfl ?_
      refine vl_nil ?_
      refine (qn_n (th_n ?_))
      refine VC_ret ?_
      refine (bl_r (th_r (th_r (bl_r (th_r ?_)))))
      refine ⟨_, res1 rfl rfl, ?_⟩
      exact rfl
    · skip
      have ht13 := Decidable.not_not.1 (of_decide_eq_false ht13)
      refine VC_skip ?_
      refine (bl_n (th_n ?_))
      refine VC_region ?_
      refine vl_v (q_move rfl) rfl ?_
      refine vl_v (q_sub_i rfl rfl (by omega) (by omega)) rfl ?_
      refine vl_v (q_assign rfl) rfl ?_
      refine vl_nil ?_
      refine (th_n ?_)
      refine ⟨k + 1, ⟨by omega, fun j h1 h2 => by by_cases hj : j = 15 - k; (· rw [hj]; exact ht13); (· exact hp2 j (by omega) h2)⟩, by omega, (Sub.cons (s := 1) rfl (Sub.cons (s := 3) (congrArg (fun x : Int => some (vI x)) (show (15 - (k : Int) - 1 : Int) = 15 - ((k + 1 : Nat) : Int) by omega)) (Sub.nil _))), fun w H => H⟩
  · skip
    have ht5 := of_decide_eq_false ht5
    refine VC_exit ?_
    refine (th_x (th_x (bl_xs (th_n ?_))))
    refine VC_seq ?_
    refine VC_region ?_
    refine vl_v (q_as (v := .bool (leB n)) (q_assign rfl) (congrArg Value.bool (leB_all hn (fun j h => hp2 j (by omega) h)))) rfl ?_
    refine vl_nil ?_
    refine (th_n ?_)
    refine VC_ret ?_
    refine ⟨_, res1 rfl rfl, ?_⟩
    exact rfl
set_option maxHeartbeats 4000000 in
theorem rkey_calls (n : List Nat) (hn : n.length = 16) (hM : ∀ j, j < 16 → n.getD j 0 ≤ 1152921504606846976) (w : World) :
    Calls Try.prog 13 #[.agg (n64s n).toArray] w fun e w' => e = .returned (.agg (bys (keyV (valI (cz n)))).toArray) ∧ Kept [] w w' := by
  obtain ⟨hcd, hcv⟩ := carried_dig hn hM
  have hkl := keyV_length (valI (cz n))
  have hr4 := hcd.1
  refine enter (n := 53) (R := fun e L => e = .returned (.agg (bys (keyV (valI (cz n)))).toArray)) [.agg (n64s n).toArray] Try.func13 rfl rfl rfl (St.refl w) ?_ (fun e w' L' h H => ⟨h, H.kept⟩)
  refine VC_seq ?_
  refine VC_region ?_
  refine l_boxA rfl rfl ?_
  intro b1
  refine l_allocA zr23 rfl ?_
  intro b2
  refine vl_nil ?_
  refine (th_n ?_)
  refine VC_seq ?_
  refine VC_region ?_
  first | (refine vl_v (q_loads 1 Try.underlying33 rfl rfl rfl sz33 (by first | omega | with_reducible assumption | (simp only [bys_length, u32s_length, u64s_length, i64s_length, n64s_length, List.length_append]; omega) | (simp only [List.length_set, List.length_replicate, List.length_map, List.length_append, bys_length, u32s_length, u64s_length, i64s_length, List.length_take, List.length_drop, List.length_cons, List.length_nil, *] <;> first | done | omega) | rfl)) rfl ?_) | (refine vl_v (q_loadsAt 1 Try.underlying33 rfl rfl rfl sz33 (by rfl) (by first | omega | with_reducible assumption | (simp only [bys_length, u32s_length, u64s_length, i64s_length, n64s_length, List.length_append]; omega) | (simp only [List.length_set, List.length_replicate, List.length_map, List.length_append, bys_length, u32s_length, u64s_length, i64s_length, List.length_take, List.length_drop, List.length_cons, List.length_nil, *] <;> first | done | omega) | rfl)) rfl ?_)
  refine vl_v (q_callV Try.func28 rfl rfl rfl (fun w1 H1 => carried_calls n hn hM w1)) rfl ?_
  refine l_storeA 1 rfl rfl rfl sz33 (by first | omega | with_reducible assumption | (simp only [bys_length, u32s_length, u64s_length, i64s_length, n64s_length, List.length_append]; omega) | (simp only [List.length_set, List.length_replicate, List.length_map, List.length_append, bys_length, u32s_length, u64s_length, i64s_length, List.length_take, List.length_drop, List.length_cons, List.length_nil, *] <;> first | done | omega) | rfl) (by first | with_reducible exact bys_one _ | with_reducible exact u32s_one _ | with_reducible exact u64s_one _ | with_reducible exact i64s_one _ | with_reducible exact n64s_one _ | exact bys_one _ | exact u32s_one _ | exact u64s_one _ | exact i64s_one _ | with_reducible assumption | exact one_all rfl | (refine app_one ?_ ?_ <;> first | exact bys_one _ | (simp; done))) (by first | omega | with_reducible assumption | (simp only [bys_length, u32s_length, u64s_length, i64s_length, n64s_length, List.length_append]; omega) | (simp only [List.length_set, List.length_replicate, List.length_map, List.length_append, bys_length, u32s_length, u64s_length, i64s_length, List.length_take, List.length_drop, List.length_cons, List.length_nil, *] <;> first | done | omega) | rfl) ?_
  simp only [List.set_cons_zero, List.set_cons_succ]
  refine vl_nil ?_
  refine (th_n ?_)
  refine VC_seq ?_
  refine VC_block ?_
  refine VC_loop (ι := Nat) (fun j => digN (rlN (rN n 4) j) ∧ valI (cz (rlN (rN n 4) j)) % pZ = valI (cz n) % pZ) (fun j => [(1, vP b1 0), (2, vP b2 0)]) (fun j => [.blk b1 33 (n64s (rlN (rN n 4) j)), .blk b2 23 (bys (List.replicate 32 0))]) (fun j => (valI (cz (rlN (rN n 4) j))).toNat) 0 (⟨hcd, hcv⟩) (Sub.cons (s := 1) rfl (Sub.cons (s := 2) rfl (Sub.nil _))) (fun w H => St.pick H (ks := [1, 0]) (by decide) rfl) ?_
  rintro j hp
  obtain ⟨hp1, hp2⟩ := hp
  have hp1 : digN (rlN (rN n 4) j) := hp1
  have hp2 : valI (cz (rlN (rN n 4) j)) % pZ = valI (cz n) % pZ := hp2
  have hjl := hp1.1
  have hjb := hp1.dig.bound
  refine VC_seq ?_
  refine VC_seq ?_
  refine VC_region ?_
  first | (refine vl_v (q_loads 0 Try.underlying33 rfl rfl rfl sz33 (by first | omega | with_reducible assumption | (simp only [bys_length, u32s_length, u64s_length, i64s_length, n64s_length, List.length_append]; omega) | (simp only [List.length_set, List.length_replicate, List.length_map, List.length_append, bys_length, u32s_length, u64s_length, i64s_length, List.length_take, List.length_drop, List.length_cons, List.length_nil, *] <;> first | done | omega) | rfl)) rfl ?_) | (refine vl_v (q_loadsAt 0 Try.underlying33 rfl rfl rfl sz33 (by rfl) (by first | omega | with_reducible assumption | (simp only [bys_length, u32s_length, u64s_length, i64s_length, n64s_length, List.length_append]; omega) | (simp only [List.length_set, List.length_replicate, List.length_map, List.length_append, bys_length, u32s_length, u64s_length, i64s_length, List.length_take, List.length_drop, List.length_cons, List.length_nil, *] <;> first | done | omega) | rfl)) rfl ?_)
  refine vl_v (q_callV Try.func29 rfl rfl rfl (fun w1 H1 => least_calls (rlN (rN n 4) j) hp1 w1)) rfl ?_
  refine vl_nil ?_
  refine (th_n ?_)
  refine VC_cond rfl (fun ht11 => ?_) (fun ht11 => ?_)
  · skip
    have ht11 : pZ ≤ valI (cz (rlN (rN n 4) j)) := of_decide_eq_true ht11
    refine VC_skip ?_
    refine (th_n ?_)
    refine VC_block ?_
    refine VC_seq ?_
    refine VC_region ?_
    refine vl_v (q_assign rfl) rfl ?_
    refine vl_nil ?_
    refine (th_n ?_)
    refine VC_seq ?_
    refine VC_region ?_
    refine vl_v (q_assign rfl) rfl ?_
    refine vl_nil ?_
    refine (th_n ?_)
    refine VC_block ?_
    refine VC_loop (ι := Nat) (fun i => i ≤ 16) (fun i => [(1, vP b1 0), (2, vP b2 0), (3, vW (rlSt (rlN (rN n 4) j) i).2), (4, vN i)]) (fun i => [.blk b1 33 (n64s (rlSt (rlN (rN n 4) j) i).1), .blk b2 23 (bys (List.replicate 32 0))]) (fun i => 16 - i) 0 (by omega) (Sub.cons (s := 1) rfl (Sub.cons (s := 2) rfl (Sub.cons (s := 3) rfl (Sub.cons (s := 4) rfl (Sub.nil _))))) (fun w H => H) ?_
    rintro i hp
    have hil := (rlSt_length (rlN (rN n 4) j) i).trans hjl
    refine VC_seq ?_
    refine VC_seq ?_
    refine VC_region ?_
    refine vl_v (q_move rfl) rfl ?_
    first | (refine vl_v (q_lss_n (q := 16) Try.underlying3 rfl rfl) rfl ?_) | (refine vl_v (q_lss_k Try.underlying3 rfl rfl) rfl ?_)
    refine vl_nil ?_
    refine (th_n ?_)
    refine VC_cond rfl (fun ht13 => ?_) (fun ht13 => ?_)
    · skip
      have ht13 := of_decide_eq_true ht13
      refine VC_skip ?_
      refine (th_n ?_)
      refine VC_seq ?_
      refine VC_block ?_
      refine VC_seq ?_
      have ht13 : i < 16 := ht13
      obtain ⟨hb1, hb2⟩ := rl_bound hp1 i ht13
      have hb3 := hp1.2 i ht13
      have hb4 : pDn i ≤ 65535 := by unfold pDn; split <;> (try split) <;> omega
      refine VC_drawV 8 [[], [0], [1], [2], [], [4], [3, 5], [], [6, 7], [8, 5, 0, 1, 2, 3, 4, 6, 7]] [[], [0], [0, 1], [0, 1, 2], [], [4], [0, 1, 2, 3, 4, 5], [], [0, 1, 2, 3, 4, 5, 6, 7], [0, 1, 2, 3, 4, 5, 6, 7, 8]] rfl (by kernel_rfl) ?_
      refine qv_v (q_move rfl) ?_
      first | (refine qv_v (q_idxA Try.underlying33 sz31 rfl rfl (by omega) (r := _) (by rw [Nat.mul_one, Nat.zero_add])) ?_) | (refine qv_v (q_idxA Try.underlying33 sz31 rfl rfl (by omega) rfl) ?_)
      first | (refine qv_v (q_load 0 Try.underlying31 rfl rfl rfl (n64s_at (by first | omega | with_reducible assumption | (simp only [bys_length, u32s_length, u64s_length, i64s_length, n64s_length, List.length_append]; omega) | (simp only [List.length_set, List.length_replicate, List.length_map, List.length_append, bys_length, u32s_length, u64s_length, i64s_length, List.length_take, List.length_drop, List.length_cons, List.length_nil, *] <;> first | done | omega) | rfl))) ?_) | (refine qv_v (q_load 0 Try.underlying31 rfl rfl rfl rfl) ?_)
      refine qv_v (q_add_w (q := 65536) rfl rfl (by omega)) ?_
      refine qv_v (q_move rfl) ?_
      refine qv_v (q_callV Try.func30 rfl rfl rfl (fun w1 H1 => prime_calls i w1)) ?_
      refine qv_v (q_sub_w rfl rfl (by omega) (by omega)) ?_
      refine qv_v (q_move rfl) ?_
      refine qv_end ?_
      refine VL.keep (Sub.cons (s := 1) rfl (Sub.cons (s := 2) rfl (Sub.cons (s := 3) rfl (Sub.cons (s := 4) rfl (Sub.cons (s := 13) rfl (Sub.cons (s := 22) rfl (Sub.cons (s := 23) rfl (Sub.nil _)))))))) ?_
      refine vl_v (q_sub_w rfl rfl (by omega) (by omega)) rfl ?_
      refine vl_v (q_assign rfl) rfl ?_
      refine vl_nil ?_
      refine (qn_n (th_n ?_))
      refine VC_seq ?_
      refine VC_region ?_
      refine vl_v (q_move rfl) rfl ?_
      refine vl_v (q_move rfl) rfl ?_
      refine vl_v (q_rem_n (q := 65536) rfl rfl (by omega)) rfl ?_
      first | (refine vl_v (q_idxA Try.underlying33 sz31 rfl rfl (by omega) (r := _) (by rw [Nat.mul_one, Nat.zero_add])) rfl ?_) | (refine vl_v (q_idxA Try.underlying33 sz31 rfl rfl (by omega) rfl) rfl ?_)
      first | (refine l_stN 0 rfl rfl rfl sz31 (by first | omega | with_reducible assumption | (simp only [bys_length, u32s_length, u64s_length, i64s_length, n64s_length, List.length_append]; omega) | (simp only [List.length_set, List.length_replicate, List.length_map, List.length_append, bys_length, u32s_length, u64s_length, i64s_length, List.length_take, List.length_drop, List.length_cons, List.length_nil, *] <;> first | done | omega) | rfl) ?_) | (refine l_store1 0 rfl rfl rfl sz31 rfl (by first | decide | simp) ?_)
      simp only [List.set_cons_zero, List.set_cons_succ]
      refine vl_nil ?_
      refine (th_n ?_)
      refine VC_region ?_
      refine vl_v (q_move rfl) rfl ?_
      refine vl_v (q_quo_w (q := 65536) rfl rfl (by omega) (by omega)) rfl ?_
      refine vl_v (q_sub_w (p := 1) rfl rfl (by omega) (by omega)) rfl ?_
      refine vl_v (q_assign rfl) rfl ?_
      refine vl_nil ?_
      refine (bl_n (th_n ?_))
      refine VC_region ?_
      refine vl_v (q_move rfl) rfl ?_
      first | (refine vl_v (q_add_n (q := 1) rfl rfl (by omega)) rfl ?_) | (refine vl_v (q_add_i rfl rfl (by omega) (by omega)) rfl ?_)
      refine vl_v (q_assign rfl) rfl ?_
      refine vl_nil ?_
      refine (th_n ?_)
      refine ⟨i + 1, by omega, by omega, (Sub.cons (s := 1) rfl (Sub.cons (s := 2) rfl (Sub.cons (s := 3) rfl (Sub.cons (s := 4) rfl (Sub.nil _))))), fun w H => H⟩
    · skip
      have ht13 := of_decide_eq_false ht13
      obtain rfl : i = 16 := by omega
      refine VC_exit ?_
      refine (th_x (th_x (bl_xs (bl_n (th_n ?_)))))
      refine ⟨j + 1, ⟨rl_dig hp1, by show valI (cz (rlSt (rlN (rN n 4) j) 16).1) % pZ = _; rw [rl_val hp1 ht11, ← hp2]; simp only [pZ]; omega⟩, by show (valI (cz (rlSt (rlN (rN n 4) j) 16).1)).toNat < (valI (cz (rlN (rN n 4) j))).toNat; rw [rl_val hp1 ht11]; simp only [pZ] at *; omega, (Sub.cons (s := 1) rfl (Sub.cons (s := 2) rfl (Sub.nil _))), fun w H => H⟩
  · skip
    have ht11 : ¬ pZ ≤ valI (cz (rlN (rN n 4) j)) := of_decide_eq_false ht11
    obtain ⟨m, hm⟩ : ∃ m, m = rlN (rN n 4) j := ⟨_, rfl⟩
    rw [← hm] at hp1 hp2 hjl hjb ht11
    rw [← hm]
    refine VC_exit ?_
    refine (th_x (th_x (bl_xs (th_n ?_))))
    refine VC_seq ?_
    refine VC_region ?_
    refine l_allocA zr23 rfl ?_
    intro b6
    refine vl_nil ?_
    refine (th_n ?_)
    refine VC_seq ?_
    refine VC_seq ?_
    refine VC_region ?_
    refine vl_v (q_assign rfl) rfl ?_
    refine vl_nil ?_
    refine (th_n ?_)
    refine VC_block ?_
    refine VC_loop (ι := Nat) (fun i => i ≤ 16) (fun i => [(1, vP b1 0), (2, vP b2 0), (6, vP b6 0), (7, vN i)]) (fun i => [.blk b6 23 (bys (rkeySt m i)), .blk b1 33 (n64s m), .blk b2 23 (bys (List.replicate 32 0))]) (fun i => 16 - i) 0 (by omega) (Sub.cons (s := 1) rfl (Sub.cons (s := 2) rfl (Sub.cons (s := 6) rfl (Sub.cons (s := 7) rfl (Sub.nil _))))) (fun w H => H) ?_
    rintro i hp
    have hkl2 := rkeySt_length m i
    refine VC_seq ?_
    refine VC_seq ?_
    refine VC_region ?_
    refine vl_v (q_move rfl) rfl ?_
    first | (refine vl_v (q_lss_n (q := 16) Try.underlying3 rfl rfl) rfl ?_) | (refine vl_v (q_lss_k Try.underlying3 rfl rfl) rfl ?_)
    refine vl_nil ?_
    refine (th_n ?_)
    refine VC_cond rfl (fun ht33 => ?_) (fun ht33 => ?_)
    · skip
      have ht33 := of_decide_eq_true ht33
      refine VC_skip ?_
      refine (th_n ?_)
      refine VC_seq ?_
      refine VC_block ?_
      refine VC_seq ?_
      have ht33 : i < 16 := ht33
      have hb3 := hp1.2 i ht33
      have hl3 : ((rkeySt m i).set (2 * i) (UInt8.ofNat (m.getD i 0))).length = 32 := by rw [List.length_set, hkl2]
      refine VC_region ?_
      refine vl_v (q_move rfl) rfl ?_
      first | (refine vl_v (q_mul_n (p := 2) rfl rfl (by omega)) rfl ?_) | (refine vl_v (q_mul_i rfl rfl (by omega) (by omega)) rfl ?_)
      refine vl_v (q_move rfl) rfl ?_
      first | (refine vl_v (q_idxA Try.underlying33 sz31 rfl rfl (by omega) (r := _) (by rw [Nat.mul_one, Nat.zero_add])) rfl ?_) | (refine vl_v (q_idxA Try.underlying33 sz31 rfl rfl (by omega) rfl) rfl ?_)
      first | (refine vl_v (q_load 1 Try.underlying31 rfl rfl rfl (n64s_at (by first | omega | with_reducible assumption | (simp only [bys_length, u32s_length, u64s_length, i64s_length, n64s_length, List.length_append]; omega) | (simp only [List.length_set, List.length_replicate, List.length_map, List.length_append, bys_length, u32s_length, u64s_length, i64s_length, List.length_take, List.length_drop, List.length_cons, List.length_nil, *] <;> first | done | omega) | rfl))) rfl ?_) | (refine vl_v (q_load 1 Try.underlying31 rfl rfl rfl rfl) rfl ?_)
      refine vl_v (q_conv_nu8 Try.underlying31 Try.underlying5 rfl) rfl ?_
      first | (refine vl_v (q_idxA Try.underlying23 sz5 rfl rfl (by omega) (r := _) (by rw [Nat.mul_one, Nat.zero_add])) rfl ?_) | (refine vl_v (q_idxA Try.underlying23 sz5 rfl rfl (by omega) rfl) rfl ?_)
      first | (refine l_stB 0 rfl rfl rfl sz5 (by first | omega | with_reducible assumption | (simp only [bys_length, u32s_length, u64s_length, i64s_length, n64s_length, List.length_append]; omega) | (simp only [List.length_set, List.length_replicate, List.length_map, List.length_append, bys_length, u32s_length, u64s_length, i64s_length, List.length_take, List.length_drop, List.length_cons, List.length_nil, *] <;> first | done | omega) | rfl) ?_) | (refine l_store1 0 rfl rfl rfl sz5 rfl (by first | decide | simp) ?_)
      simp only [List.set_cons_zero, List.set_cons_succ]
      refine vl_nil ?_
      refine (th_n ?_)
      refine VC_region ?_
      refine vl_v (q_move rfl) rfl ?_
      first | (refine vl_v (q_mul_n (p := 2) rfl rfl (by omega)) rfl ?_) | (refine vl_v (q_mul_i rfl rfl (by omega) (by omega)) rfl ?_)
      first | (refine vl_v (q_add_n (q := 1) rfl rfl (by omega)) rfl ?_) | (refine vl_v (q_add_i rfl rfl (by omega) (by omega)) rfl ?_)
      refine vl_v (q_move rfl) rfl ?_
      first | (refine vl_v (q_idxA Try.underlying33 sz31 rfl rfl (by omega) (r := _) (by rw [Nat.mul_one, Nat.zero_add])) rfl ?_) | (refine vl_v (q_idxA Try.underlying33 sz31 rfl rfl (by omega) rfl) rfl ?_)
      first | (refine vl_v (q_load 1 Try.underlying31 rfl rfl rfl (n64s_at (by first | omega | with_reducible assumption | (simp only [bys_length, u32s_length, u64s_length, i64s_length, n64s_length, List.length_append]; omega) | (simp only [List.length_set, List.length_replicate, List.length_map, List.length_append, bys_length, u32s_length, u64s_length, i64s_length, List.length_take, List.length_drop, List.length_cons, List.length_nil, *] <;> first | done | omega) | rfl))) rfl ?_) | (refine vl_v (q_load 1 Try.underlying31 rfl rfl rfl rfl) rfl ?_)
      refine vl_v (q_quo_w (q := 256) rfl rfl (by omega) (by omega)) rfl ?_
      refine vl_v (q_conv_nu8 Try.underlying31 Try.underlying5 rfl) rfl ?_
      first | (refine vl_v (q_idxA Try.underlying23 sz5 rfl rfl (by omega) (r := _) (by rw [Nat.mul_one, Nat.zero_add])) rfl ?_) | (refine vl_v (q_idxA Try.underlying23 sz5 rfl rfl (by omega) rfl) rfl ?_)
      first | (refine l_stB 0 rfl rfl rfl sz5 (by first | omega | with_reducible assumption | (simp only [bys_length, u32s_length, u64s_length, i64s_length, n64s_length, List.length_append]; omega) | (simp only [List.length_set, List.length_replicate, List.length_map, List.length_append, bys_length, u32s_length, u64s_length, i64s_length, List.length_take, List.length_drop, List.length_cons, List.length_nil, *] <;> first | done | omega) | rfl) ?_) | (refine l_store1 0 rfl rfl rfl sz5 rfl (by first | decide | simp) ?_)
      simp only [List.set_cons_zero, List.set_cons_succ]
      refine vl_nil ?_
      refine (bl_n (th_n ?_))
      refine VC_region ?_
      refine vl_v (q_move rfl) rfl ?_
      first | (refine vl_v (q_add_n (q := 1) rfl rfl (by omega)) rfl ?_) | (refine vl_v (q_add_i rfl rfl (by omega) (by omega)) rfl ?_)
      refine vl_v (q_assign rfl) rfl ?_
      refine vl_nil ?_
      refine (th_n ?_)
      refine ⟨i + 1, by omega, by omega, (Sub.cons (s := 1) rfl (Sub.cons (s := 2) rfl (Sub.cons (s := 6) rfl (Sub.cons (s := 7) rfl (Sub.nil _))))), fun w H => H⟩
    · skip
      have ht33 := of_decide_eq_false ht33
      obtain rfl : i = 16 := by omega
      rw [show rkeySt m 16 = keyV (valI (cz n)) by rw [rkeySt_eq, keySt_V hp1 (by omega)]; exact keyV_eq hp2]
      refine VC_exit ?_
      refine (th_x (th_x (bl_xs (th_n ?_))))
      refine VC_seq ?_
      refine VC_region ?_
      first | (refine vl_v (q_loads 0 Try.underlying23 rfl rfl rfl sz23 (by first | omega | with_reducible assumption | (simp only [bys_length, u32s_length, u64s_length, i64s_length, n64s_length, List.length_append]; omega) | (simp only [List.length_set, List.length_replicate, List.length_map, List.length_append, bys_length, u32s_length, u64s_length, i64s_length, List.length_take, List.length_drop, List.length_cons, List.length_nil, *] <;> first | done | omega) | rfl)) rfl ?_) | (refine vl_v (q_loadsAt 0 Try.underlying23 rfl rfl rfl sz23 (by rfl) (by first | omega | with_reducible assumption | (simp only [bys_length, u32s_length, u64s_length, i64s_length, n64s_length, List.length_append]; omega) | (simp only [List.length_set, List.length_replicate, List.length_map, List.length_append, bys_length, u32s_length, u64s_length, i64s_length, List.length_take, List.length_drop, List.length_cons, List.length_nil, *] <;> first | done | omega) | rfl)) rfl ?_)
      refine l_storeA 2 rfl rfl rfl sz23 (by first | omega | with_reducible assumption | (simp only [bys_length, u32s_length, u64s_length, i64s_length, n64s_length, List.length_append]; omega) | (simp only [List.length_set, List.length_replicate, List.length_map, List.length_append, bys_length, u32s_length, u64s_length, i64s_length, List.length_take, List.length_drop, List.length_cons, List.length_nil, *] <;> first | done | omega) | rfl) (by first | with_reducible exact bys_one _ | with_reducible exact u32s_one _ | with_reducible exact u64s_one _ | with_reducible exact i64s_one _ | with_reducible exact n64s_one _ | exact bys_one _ | exact u32s_one _ | exact u64s_one _ | exact i64s_one _ | with_reducible assumption | exact one_all rfl | (refine app_one ?_ ?_ <;> first | exact bys_one _ | (simp; done))) (by first | omega | with_reducible assumption | (simp only [bys_length, u32s_length, u64s_length, i64s_length, n64s_length, List.length_append]; omega) | (simp only [List.length_set, List.length_replicate, List.length_map, List.length_append, bys_length, u32s_length, u64s_length, i64s_length, List.length_take, List.length_drop, List.length_cons, List.length_nil, *] <;> first | done | omega) | rfl) ?_
      simp only [List.set_cons_zero, List.set_cons_succ]
      refine vl_nil ?_
      refine (th_n ?_)
      refine VC_ret ?_
      refine ⟨_, resC1 2 rfl Try.underlying23 rfl rfl rfl sz23 (by first | omega | with_reducible assumption | (simp only [bys_length, u32s_length, u64s_length, i64s_length, n64s_length, List.length_append]; omega) | (simp only [List.length_set, List.length_replicate, List.length_map, List.length_append, bys_length, u32s_length, u64s_length, i64s_length, List.length_take, List.length_drop, List.length_cons, List.length_nil, *] <;> first | done | omega) | rfl), ?_⟩
      exact rfl
theorem rkeyD_calls (n : List Nat) (hn : digN n) (w : World) :
    Calls Try.prog 13 #[.agg (n64s n).toArray] w fun e w' => e = .returned (.agg (bys (keyV (valI (cz n)))).toArray) ∧ Kept [] w w' :=
  rkey_calls n hn.1 (fun j hj => by have := hn.2 j hj; omega) w
theorem rinvSt_no (e : List Nat) (k : Nat) (h : ¬ (254 - k = 2 ∨ 254 - k = 4)) : rmulL (rmulL (rinvSt e k) (rinvSt e k)) e = rinvSt e (k + 1) := by
  conv => rhs; unfold rinvSt
  exact (if_neg h).symm
theorem rinvSt_yes (e : List Nat) (k : Nat) (h : 254 - k = 2 ∨ 254 - k = 4) : rmulL (rinvSt e k) (rinvSt e k) = rinvSt e (k + 1) := by
  conv => rhs; unfold rinvSt
  exact (if_pos h).symm
set_option maxHeartbeats 2000000 in
theorem rinv_calls (a : List Nat) (ha : digN a) (w : World) :
    Calls Try.prog 27 #[.agg (n64s a).toArray] w fun e' w' => e' = .returned (.agg (n64s (rinvL a)).toArray) ∧ Kept [] w w' := by
  have hal := ha.1
  have hil := (rinvL_dig ha).1
  refine enter (n := 23) (R := fun e' L => e' = .returned (.agg (n64s (rinvL a)).toArray)) [.agg (n64s a).toArray] Try.func27 rfl rfl rfl (St.refl w) ?_ (fun e w' L' h H => ⟨h, H.kept⟩)
  refine VC_seq ?_
  refine VC_region ?_
  refine l_boxA rfl rfl ?_
  intro b1
  refine l_allocA zr33 rfl ?_
  intro b2
  simp only [u64s_rep]
  refine vl_nil ?_
  refine (th_n ?_)
  refine VC_seq ?_
  refine VC_region ?_
  refine vl_v (q_build (c' := n64s (1 :: List.replicate 15 0)) rfl (by kernel_rfl)) rfl ?_
  refine l_allocA zr33 rfl ?_
  intro b3
  simp only [u64s_rep]
  refine l_storeA 0 rfl rfl rfl sz33 (by first | omega | with_reducible assumption | (simp only [bys_length, u32s_length, u64s_length, i64s_length, n64s_length, List.length_append]; omega) | (simp only [List.length_set, List.length_replicate, List.length_map, List.length_append, bys_length, u32s_length, u64s_length, i64s_length, List.length_take, List.length_drop, List.length_cons, List.length_nil, *] <;> first | done | omega) | rfl) (by first | with_reducible exact bys_one _ | with_reducible exact u32s_one _ | with_reducible exact u64s_one _ | with_reducible exact i64s_one _ | with_reducible exact n64s_one _ | exact bys_one _ | exact u32s_one _ | exact u64s_one _ | exact i64s_one _ | with_reducible assumption | exact one_all rfl | (refine app_one ?_ ?_ <;> first | exact bys_one _ | (simp; done))) (by first | omega | with_reducible assumption | (simp only [bys_length, u32s_length, u64s_length, i64s_length, n64s_length, List.length_append]; omega) | (simp only [List.length_set, List.length_replicate, List.length_map, List.length_append, bys_length, u32s_length, u64s_length, i64s_length, List.length_take, List.length_drop, List.length_cons, List.length_nil, *] <;> first | done | omega) | rfl) ?_
  simp only [List.set_cons_zero, List.set_cons_succ]
  refine vl_nil ?_
  refine (th_n ?_)
  refine VC_seq ?_
  refine VC_seq ?_
  refine VC_region ?_
  refine vl_v (q_assign rfl) rfl ?_
  refine vl_nil ?_
  refine (th_n ?_)
  refine VC_block ?_
  refine VC_loop (ι := Nat) (fun k => k ≤ 255) (fun k => [(1, vP b1 0), (2, vP b2 0), (3, vP b3 0), (4, vI (254 - (k : Int)))]) (fun k => [.blk b3 33 (n64s (rinvSt a k)), .blk b2 33 (n64s (List.replicate 16 0)), .blk b1 33 (n64s a)]) (fun k => 255 - k) 0 (by omega) (Sub.cons (s := 1) rfl (Sub.cons (s := 2) rfl (Sub.cons (s := 3) rfl (Sub.cons (s := 4) rfl (Sub.nil _))))) (fun w H => H) ?_
  rintro k hp
  have hok := rinvSt_dig ha k
  have hkl := hok.1
  have hk2 := rmulL_dig hok hok
  have hk2l := hk2.1
  have hk3l := (rmulL_dig hk2 ha).1
  refine VC_seq ?_
  refine VC_seq ?_
  refine VC_region ?_
  refine vl_v (q_move rfl) rfl ?_
  refine vl_v (q_geq_k (q := 0) Try.underlying3 rfl rfl) rfl ?_
  refine vl_nil ?_
  refine (th_n ?_)
  refine VC_cond rfl (fun ht7 => ?_) (fun ht7 => ?_)
  · skip
    have ht7 := of_decide_eq_true ht7
    refine VC_skip ?_
    refine (th_n ?_)
    refine VC_seq ?_
    refine VC_block ?_
    refine VC_seq ?_
    refine VC_region ?_
    first | (refine vl_v (q_loads 0 Try.underlying33 rfl rfl rfl sz33 (by first | omega | with_reducible assumption | (simp only [bys_length, u32s_length, u64s_length, i64s_length, n64s_length, List.length_append]; omega) | (simp only [List.length_set, List.length_replicate, List.length_map, List.length_append, bys_length, u32s_length, u64s_length, i64s_length, List.length_take, List.length_drop, List.length_cons, List.length_nil, *] <;> first | done | omega) | rfl)) rfl ?_) | (refine vl_v (q_loadsAt 0 Try.underlying33 rfl rfl rfl sz33 (by rfl) (by first | omega | with_reducible assumption | (simp only [bys_length, u32s_length, u64s_length, i64s_length, n64s_length, List.length_append]; omega) | (simp only [List.length_set, List.length_replicate, List.length_map, List.length_append, bys_length, u32s_length, u64s_length, i64s_length, List.length_take, List.length_drop, List.length_cons, List.length_nil, *] <;> first | done | omega) | rfl)) rfl ?_)
    first | (refine vl_v (q_loads 0 Try.underlying33 rfl rfl rfl sz33 (by first | omega | with_reducible assumption | (simp only [bys_length, u32s_length, u64s_length, i64s_length, n64s_length, List.length_append]; omega) | (simp only [List.length_set, List.length_replicate, List.length_map, List.length_append, bys_length, u32s_length, u64s_length, i64s_length, List.length_take, List.length_drop, List.length_cons, List.length_nil, *] <;> first | done | omega) | rfl)) rfl ?_) | (refine vl_v (q_loadsAt 0 Try.underlying33 rfl rfl rfl sz33 (by rfl) (by first | omega | with_reducible assumption | (simp only [bys_length, u32s_length, u64s_length, i64s_length, n64s_length, List.length_append]; omega) | (simp only [List.length_set, List.length_replicate, List.length_map, List.length_append, bys_length, u32s_length, u64s_length, i64s_length, List.length_take, List.length_drop, List.length_cons, List.length_nil, *] <;> first | done | omega) | rfl)) rfl ?_)
    refine vl_v (q_callV Try.func26 rfl rfl rfl (fun w1 H1 => rmul_calls (rinvSt a k) (rinvSt a k) hok hok w1)) rfl ?_
    refine l_storeA 0 rfl rfl rfl sz33 (by first | omega | with_reducible assumption | (simp only [bys_length, u32s_length, u64s_length, i64s_length, n64s_length, List.length_append]; omega) | (simp only [List.length_set, List.length_replicate, List.length_map, List.length_append, bys_length, u32s_length, u64s_length, i64s_length, List.length_take, List.length_drop, List.length_cons, List.length_nil, *] <;> first | done | omega) | rfl) (by first | with_reducible exact bys_one _ | with_reducible exact u32s_one _ | with_reducible exact u64s_one _ | with_reducible exact i64s_one _ | with_reducible exact n64s_one _ | exact bys_one _ | exact u32s_one _ | exact u64s_one _ | exact i64s_one _ | with_reducible assumption | exact one_all rfl | (refine app_one ?_ ?_ <;> first | exact bys_one _ | (simp; done))) (by first | omega | with_reducible assumption | (simp only [bys_length, u32s_length, u64s_length, i64s_length, n64s_length, List.length_append]; omega) | (simp only [List.length_set, List.length_replicate, List.length_map, List.length_append, bys_length, u32s_length, u64s_length, i64s_length, List.length_take, List.length_drop, List.length_cons, List.length_nil, *] <;> first | done | omega) | rfl) ?_
    simp only [List.set_cons_zero, List.set_cons_succ]
    refine vl_nil ?_
    refine (th_n ?_)
    refine VC_seq ?_
    refine VC_region ?_
    refine vl_v (q_move rfl) rfl ?_
    refine vl_v (q_as (v := .bool (decide (¬ k = 252))) (q_neq_k (q := 2) Try.underlying3 rfl rfl) (by rw [show (!decide ((254 : Int) - (k : Int) = 2)) = decide (¬ k = 252) by rw [Bool.eq_iff_iff]; simp; omega])) rfl ?_
    by_cases hs14 : ¬ k = 252
    · skip
      rw [show decide (¬ k = 252) = true from decide_eq_true hs14]
      refine vl_v (q_move rfl) rfl ?_
      refine vl_vg rfl (q_move rfl) rfl ?_
      refine vl_vg rfl (q_as (v := .bool (decide (¬ k = 250))) (q_neq_k (q := 4) Try.underlying3 rfl rfl) (by rw [show (!decide ((254 : Int) - (k : Int) = 4)) = decide (¬ k = 250) by rw [Bool.eq_iff_iff]; simp; omega])) rfl ?_
      by_cases hs17 : ¬ k = 250
      · skip
        rw [show decide (¬ k = 250) = true from decide_eq_true hs17]
        first | (refine vl_v (q_pickT rfl rfl) rfl ?_) | (refine vl_v (q_pickF rfl rfl) rfl ?_)
        refine vl_nil ?_
        refine (th_n ?_)
        refine VC_yes (rfl) ?_
        refine VC_region ?_
        first | (refine vl_v (q_loads 0 Try.underlying33 rfl rfl rfl sz33 (by first | omega | with_reducible assumption | (simp only [bys_length, u32s_length, u64s_length, i64s_length, n64s_length, List.length_append]; omega) | (simp only [List.length_set, List.length_replicate, List.length_map, List.length_append, bys_length, u32s_length, u64s_length, i64s_length, List.length_take, List.length_drop, List.length_cons, List.length_nil, *] <;> first | done | omega) | rfl)) rfl ?_) | (refine vl_v (q_loadsAt 0 Try.underlying33 rfl rfl rfl sz33 (by rfl) (by first | omega | with_reducible assumption | (simp only [bys_length, u32s_length, u64s_length, i64s_length, n64s_length, List.length_append]; omega) | (simp only [List.length_set, List.length_replicate, List.length_map, List.length_append, bys_length, u32s_length, u64s_length, i64s_length, List.length_take, List.length_drop, List.length_cons, List.length_nil, *] <;> first | done | omega) | rfl)) rfl ?_)
        first | (refine vl_v (q_loads 2 Try.underlying33 rfl rfl rfl sz33 (by first | omega | with_reducible assumption | (simp only [bys_length, u32s_length, u64s_length, i64s_length, n64s_length, List.length_append]; omega) | (simp only [List.length_set, List.length_replicate, List.length_map, List.length_append, bys_length, u32s_length, u64s_length, i64s_length, List.length_take, List.length_drop, List.length_cons, List.length_nil, *] <;> first | done | omega) | rfl)) rfl ?_) | (refine vl_v (q_loadsAt 2 Try.underlying33 rfl rfl rfl sz33 (by rfl) (by first | omega | with_reducible assumption | (simp only [bys_length, u32s_length, u64s_length, i64s_length, n64s_length, List.length_append]; omega) | (simp only [List.length_set, List.length_replicate, List.length_map, List.length_append, bys_length, u32s_length, u64s_length, i64s_length, List.length_take, List.length_drop, List.length_cons, List.length_nil, *] <;> first | done | omega) | rfl)) rfl ?_)
        refine vl_v (q_callV Try.func26 rfl rfl rfl (fun w1 H1 => rmul_calls (rmulL (rinvSt a k) (rinvSt a k)) a hk2 ha w1)) rfl ?_
        refine l_storeA 0 rfl rfl rfl sz33 (by first | omega | with_reducible assumption | (simp only [bys_length, u32s_length, u64s_length, i64s_length, n64s_length, List.length_append]; omega) | (simp only [List.length_set, List.length_replicate, List.length_map, List.length_append, bys_length, u32s_length, u64s_length, i64s_length, List.length_take, List.length_drop, List.length_cons, List.length_nil, *] <;> first | done | omega) | rfl) (by first | with_reducible exact bys_one _ | with_reducible exact u32s_one _ | with_reducible exact u64s_one _ | with_reducible exact i64s_one _ | with_reducible exact n64s_one _ | exact bys_one _ | exact u32s_one _ | exact u64s_one _ | exact i64s_one _ | with_reducible assumption | exact one_all rfl | (refine app_one ?_ ?_ <;> first | exact bys_one _ | (simp; done))) (by first | omega | with_reducible assumption | (simp only [bys_length, u32s_length, u64s_length, i64s_length, n64s_length, List.length_append]; omega) | (simp only [List.length_set, List.length_replicate, List.length_map, List.length_append, bys_length, u32s_length, u64s_length, i64s_length, List.length_take, List.length_drop, List.length_cons, List.length_nil, *] <;> first | done | omega) | rfl) ?_
        simp only [List.set_cons_zero, List.set_cons_succ]
        refine vl_nil ?_
        refine (bl_n (th_n ?_))
        refine VC_region ?_
        refine vl_v (q_move rfl) rfl ?_
        refine vl_v (q_sub_i rfl rfl (by omega) (by omega)) rfl ?_
        refine vl_v (q_assign rfl) rfl ?_
        refine vl_nil ?_
        refine (th_n ?_)
        first | rw [rinvSt_no a k (by omega)] | rw [rinvSt_yes a k (by omega)]
        refine ⟨k + 1, by omega, by omega, (Sub.cons (s := 1) rfl (Sub.cons (s := 2) rfl (Sub.cons (s := 3) rfl (Sub.cons (s := 4) (congrArg (fun x : Int => some (vI x)) (show (254 - (k : Int) - 1 : Int) = 254 - ((k + 1 : Nat) : Int) by omega)) (Sub.nil _))))), fun w H => H⟩
      · skip
        rw [show decide (¬ k = 250) = false from decide_eq_false hs17]
        first | (refine vl_v (q_pickT rfl rfl) rfl ?_) | (refine vl_v (q_pickF rfl rfl) rfl ?_)
        refine vl_nil ?_
        refine (th_n ?_)
        refine VC_no (rfl) ?_
        refine VC_skip ?_
        refine (bl_n (th_n ?_))
        refine VC_region ?_
        refine vl_v (q_move rfl) rfl ?_
        refine vl_v (q_sub_i rfl rfl (by omega) (by omega)) rfl ?_
        refine vl_v (q_assign rfl) rfl ?_
        refine vl_nil ?_
        refine (th_n ?_)
        first | rw [rinvSt_no a k (by omega)] | rw [rinvSt_yes a k (by omega)]
        refine ⟨k + 1, by omega, by omega, (Sub.cons (s := 1) rfl (Sub.cons (s := 2) rfl (Sub.cons (s := 3) rfl (Sub.cons (s := 4) (congrArg (fun x : Int => some (vI x)) (show (254 - (k : Int) - 1 : Int) = 254 - ((k + 1 : Nat) : Int) by omega)) (Sub.nil _))))), fun w H => H⟩
    · skip
      rw [show decide (¬ k = 252) = false from decide_eq_false hs14]
      refine vl_v (q_move rfl) rfl ?_
      refine vl_skip rfl rfl ?_
      refine vl_skip rfl rfl ?_
      first | (refine vl_v (q_pickT rfl rfl) rfl ?_) | (refine vl_v (q_pickF rfl rfl) rfl ?_)
      refine vl_nil ?_
      refine (th_n ?_)
      refine VC_no (rfl) ?_
      refine VC_skip ?_
      refine (bl_n (th_n ?_))
      refine VC_region ?_
      refine vl_v (q_move rfl) rfl ?_
      refine vl_v (q_sub_i rfl rfl (by omega) (by omega)) rfl ?_
      refine vl_v (q_assign rfl) rfl ?_
      refine vl_nil ?_
      refine (th_n ?_)
      first | rw [rinvSt_no a k (by omega)] | rw [rinvSt_yes a k (by omega)]
      refine ⟨k + 1, by omega, by omega, (Sub.cons (s := 1) rfl (Sub.cons (s := 2) rfl (Sub.cons (s := 3) rfl (Sub.cons (s := 4) (congrArg (fun x : Int => some (vI x)) (show (254 - (k : Int) - 1 : Int) = 254 - ((k + 1 : Nat) : Int) by omega)) (Sub.nil _))))), fun w H => H⟩
  · skip
    have ht7 := of_decide_eq_false ht7
    obtain rfl : k = 255 := by omega
    rw [show rinvSt a 255 = rinvL a from rfl]
    refine VC_exit ?_
    refine (th_x (th_x (bl_xs (th_n ?_))))
    refine VC_seq ?_
    refine VC_region ?_
    first | (refine vl_v (q_loads 0 Try.underlying33 rfl rfl rfl sz33 (by first | omega | with_reducible assumption | (simp only [bys_length, u32s_length, u64s_length, i64s_length, n64s_length, List.length_append]; omega) | (simp only [List.length_set, List.length_replicate, List.length_map, List.length_append, bys_length, u32s_length, u64s_length, i64s_length, List.length_take, List.length_drop, List.length_cons, List.length_nil, *] <;> first | done | omega) | rfl)) rfl ?_) | (refine vl_v (q_loadsAt 0 Try.underlying33 rfl rfl rfl sz33 (by rfl) (by first | omega | with_reducible assumption | (simp only [bys_length, u32s_length, u64s_length, i64s_length, n64s_length, List.length_append]; omega) | (simp only [List.length_set, List.length_replicate, List.length_map, List.length_append, bys_length, u32s_length, u64s_length, i64s_length, List.length_take, List.length_drop, List.length_cons, List.length_nil, *] <;> first | done | omega) | rfl)) rfl ?_)
    refine l_storeA 1 rfl rfl rfl sz33 (by first | omega | with_reducible assumption | (simp only [bys_length, u32s_length, u64s_length, i64s_length, n64s_length, List.length_append]; omega) | (simp only [List.length_set, List.length_replicate, List.length_map, List.length_append, bys_length, u32s_length, u64s_length, i64s_length, List.length_take, List.length_drop, List.length_cons, List.length_nil, *] <;> first | done | omega) | rfl) (by first | with_reducible exact bys_one _ | with_reducible exact u32s_one _ | with_reducible exact u64s_one _ | with_reducible exact i64s_one _ | with_reducible exact n64s_one _ | exact bys_one _ | exact u32s_one _ | exact u64s_one _ | exact i64s_one _ | with_reducible assumption | exact one_all rfl | (refine app_one ?_ ?_ <;> first | exact bys_one _ | (simp; done))) (by first | omega | with_reducible assumption | (simp only [bys_length, u32s_length, u64s_length, i64s_length, n64s_length, List.length_append]; omega) | (simp only [List.length_set, List.length_replicate, List.length_map, List.length_append, bys_length, u32s_length, u64s_length, i64s_length, List.length_take, List.length_drop, List.length_cons, List.length_nil, *] <;> first | done | omega) | rfl) ?_
    simp only [List.set_cons_zero, List.set_cons_succ]
    refine vl_nil ?_
    refine (th_n ?_)
    refine VC_ret ?_
    refine ⟨_, resC1 1 rfl Try.underlying33 rfl rfl rfl sz33 (by first | omega | with_reducible assumption | (simp only [bys_length, u32s_length, u64s_length, i64s_length, n64s_length, List.length_append]; omega) | (simp only [List.length_set, List.length_replicate, List.length_map, List.length_append, bys_length, u32s_length, u64s_length, i64s_length, List.length_take, List.length_drop, List.length_cons, List.length_nil, *] <;> first | done | omega) | rfl), ?_⟩
    exact rfl
end Go.Proofs.Ytjllcdgnmdieoaa
