/- Words and laws that the proofs of this seat share, part 6 of 8. No condition. -/
import Derived.Test.YtabmfndiepmcgaaQ09e
section
namespace Go.Proofs.Ytabmfndiepmcgaa
open Go.RowKit Go.PBYtabmfndiepmcgaa
set_option linter.unusedVariables false
set_option linter.unusedSimpArgs false
set_option maxRecDepth 10000
set_option maxHeartbeats 2000000 in
theorem rof_calls (k : List UInt8) (hk : k.length = 32) (w : World) :
    Calls Try.prog 34 #[.agg (bys k).toArray] w fun e w' => e = .returned (.agg (n64s (rofL k)).toArray) ∧ Kept [] w w' := by
  have hol := (rofL_dig hk).1
  refine enter (n := 29) (R := fun e L => e = .returned (.agg (n64s (rofL k)).toArray)) [.agg (bys k).toArray] Try.func34 rfl rfl rfl (St.refl w) ?_ (fun e w' L' h H => ⟨h, H.kept⟩)
  refine VC_seq ?_
  refine VC_region ?_
  refine l_boxA rfl rfl ?_
  intro b1
  refine l_allocA zr65 rfl ?_
  intro b2
  simp only [u64s_rep]
  refine vl_nil ?_
  refine (th_n ?_)
  refine VC_seq ?_
  refine VC_region ?_
  refine l_allocA zr65 rfl ?_
  intro b3
  simp only [u64s_rep]
  refine vl_nil ?_
  refine (th_n ?_)
  refine VC_seq ?_
  refine VC_seq ?_
  refine VC_region ?_
  refine vl_v (q_assign rfl) rfl ?_
  refine vl_nil ?_
  refine (th_n ?_)
  refine VC_block ?_
  refine VC_loop (ι := Nat) (fun i => i ≤ 16) (fun i => [(1, vP b1 0), (2, vP b2 0), (3, vP b3 0), (4, vN i)]) (fun i => [.blk b3 65 (n64s (rofSt k i)), .blk b2 65 (n64s (List.replicate 16 0)), .blk b1 23 (bys k)]) (fun i => 16 - i) 0 (by omega) (Sub.cons (s := 1) rfl (Sub.cons (s := 2) rfl (Sub.cons (s := 3) rfl (Sub.cons (s := 4) rfl (Sub.nil _))))) (fun w H => H) ?_
  rintro i hp
  have hl := rofSt_length k i
  refine VC_seq ?_
  refine VC_seq ?_
  refine VC_region ?_
  refine vl_v (q_move rfl) rfl ?_
  refine vl_v (q_lss_n (q := 16) Try.underlying3 rfl rfl) rfl ?_
  refine vl_nil ?_
  refine (th_n ?_)
  refine VC_cond rfl (fun ht6 => ?_) (fun ht6 => ?_)
  · skip
    have ht6 := of_decide_eq_true ht6
    refine VC_skip ?_
    refine (th_n ?_)
    refine VC_seq ?_
    refine VC_block ?_
    have ht6 : i < 16 := ht6
    have hb1 := UInt8.toNat_lt (k.getD (2 * i) 0)
    have hb2 := UInt8.toNat_lt (k.getD (2 * i + 1) 0)
    refine VC_drawV 14 [[], [], [1], [2], [3], [4], [], [6], [7], [8], [9], [10], [11], [5, 12], [0, 1, 2, 3, 4, 5, 6, 7, 8, 9, 10, 11, 12, 13], [14, 13, 0, 1, 2, 3, 4, 5, 6, 7, 8, 9, 10, 11, 12]] [[], [], [1], [1, 2], [1, 2, 3], [1, 2, 3, 4], [], [6], [6, 7], [6, 7, 8], [6, 7, 8, 9], [6, 7, 8, 9, 10], [6, 7, 8, 9, 10, 11], [1, 2, 3, 4, 5, 6, 7, 8, 9, 10, 11, 12], [0, 1, 2, 3, 4, 5, 6, 7, 8, 9, 10, 11, 12, 13], [0, 1, 2, 3, 4, 5, 6, 7, 8, 9, 10, 11, 12, 13, 14]] rfl (by kernel_rfl) ?_
    refine qv_v (q_move rfl) ?_
    refine qv_v (q_move rfl) ?_
    refine qv_v (q_mul_n (p := 2) rfl rfl (by omega)) ?_
    refine qv_v (q_idxA Try.underlying23 sz5 rfl rfl (by omega) (r := _) (by rw [Nat.mul_one, Nat.zero_add])) ?_
    refine qv_v (q_load 2 Try.underlying5 rfl rfl rfl (bys_at (by omega))) ?_
    refine qv_v (q_conv_nw Try.underlying5 Try.underlying62 rfl (by omega)) ?_
    refine qv_v (q_move rfl) ?_
    refine qv_v (q_mul_n (p := 2) rfl rfl (by omega)) ?_
    refine qv_v (q_add_n (q := 1) rfl rfl (by omega)) ?_
    refine qv_v (q_idxA Try.underlying23 sz5 rfl rfl (by omega) (r := _) (by rw [Nat.mul_one, Nat.zero_add])) ?_
    refine qv_v (q_load 2 Try.underlying5 rfl rfl rfl (bys_at (by omega))) ?_
    refine qv_v (q_conv_nw Try.underlying5 Try.underlying62 rfl (by omega)) ?_
    refine qv_v (q_mul_w (p := 256) rfl rfl (by omega)) ?_
    refine qv_v (q_add_w rfl rfl (by omega)) ?_
    refine qv_end ?_
    refine VL.keep (Sub.cons (s := 1) rfl (Sub.cons (s := 2) rfl (Sub.cons (s := 3) rfl (Sub.cons (s := 4) rfl (Sub.cons (s := 6) rfl (Sub.cons (s := 9) rfl (Sub.cons (s := 22) rfl (Sub.nil _)))))))) ?_
    refine vl_v (q_idxA Try.underlying65 sz62 rfl rfl (by omega) (r := _) (by rw [Nat.mul_one, Nat.zero_add])) rfl ?_
    refine l_stN 0 rfl rfl rfl sz62 (by omega) ?_
    simp only [List.set_cons_zero, List.set_cons_succ]
    refine vl_nil ?_
    refine (qn_n (bl_n (th_n ?_)))
    refine VC_region ?_
    refine vl_v (q_move rfl) rfl ?_
    refine vl_v (q_add_n (q := 1) rfl rfl (by omega)) rfl ?_
    refine vl_v (q_assign rfl) rfl ?_
    refine vl_nil ?_
    refine (th_n ?_)
    refine ⟨i + 1, by omega, by omega, (Sub.cons (s := 1) rfl (Sub.cons (s := 2) rfl (Sub.cons (s := 3) rfl (Sub.cons (s := 4) rfl (Sub.nil _))))), fun w H => H⟩
  · skip
    have ht6 := of_decide_eq_false ht6
    obtain rfl : i = 16 := by omega
    refine VC_exit ?_
    refine (th_x (th_x (bl_xs (th_n ?_))))
    refine VC_seq ?_
    refine VC_region ?_
    refine vl_v (q_idxA (m := 15) Try.underlying65 sz62 rfl rfl (by omega) (r := _) (by rw [Nat.mul_one, Nat.zero_add])) rfl ?_
    refine vl_v (q_load 0 Try.underlying62 rfl rfl rfl (n64s_at (by omega))) rfl ?_
    refine vl_v (q_rem_n (q := 32768) rfl rfl (by omega)) rfl ?_
    refine vl_v (q_idxA (m := 15) Try.underlying65 sz62 rfl rfl (by omega) (r := _) (by rw [Nat.mul_one, Nat.zero_add])) rfl ?_
    refine l_stN 0 rfl rfl rfl sz62 (by omega) ?_
    simp only [List.set_cons_zero, List.set_cons_succ]
    refine vl_nil ?_
    refine (th_n ?_)
    refine VC_seq ?_
    rw [show (rofSt k 16).set 15 ((rofSt k 16).getD 15 0 % 32768) = rofL k from rfl]
    refine VC_region ?_
    refine vl_v (q_loads 0 Try.underlying65 rfl rfl rfl sz65 (by simp only [zb, zu, zw, zi, n64s_length, za]; omega)) rfl ?_
    refine l_storeA 1 rfl rfl rfl sz65 (by simp only [zb, zu, zw, zi, n64s_length, za]; omega) (by with_reducible first | exact bys_one _ | exact u32s_one _ | exact u64s_one _ | exact i64s_one _ | exact n64s_one _ | assumption) (by simp only [zs, zr, zm, za, zb, zu, zw, zi, n64s_length, zt, zd, zc, zn, *] <;> first | done | omega) ?_
    simp only [List.set_cons_zero, List.set_cons_succ]
    refine vl_nil ?_
    refine (th_n ?_)
    refine VC_ret ?_
    refine ⟨_, resC1 1 rfl Try.underlying65 rfl rfl rfl sz65 (by simp only [zb, zu, zw, zi, n64s_length, za]; omega), ?_⟩
    exact rfl
set_option maxHeartbeats 2000000 in
theorem carried_calls (n : List Nat) (hn : n.length = 16) (hM : ∀ j, j < 16 → n.getD j 0 ≤ 1152921504606846976) (w : World) :
    Calls Try.prog 56 #[.agg (n64s n).toArray] w fun e w' => e = .returned (.agg (n64s (rN n 4)).toArray) ∧ Kept [] w w' := by
  have hrl := rN_length n
  have hr4 := (hrl 4).trans hn
  refine enter (n := 33) (R := fun e L => e = .returned (.agg (n64s (rN n 4)).toArray)) [.agg (n64s n).toArray] Try.func56 rfl rfl rfl (St.refl w) ?_ (fun e w' L' h H => ⟨h, H.kept⟩)
  refine VC_seq ?_
  refine VC_region ?_
  refine l_boxA rfl rfl ?_
  intro b1
  refine l_allocA zr65 rfl ?_
  intro b2
  simp only [u64s_rep]
  refine vl_nil ?_
  refine (th_n ?_)
  refine VC_seq ?_
  refine VC_seq ?_
  refine VC_region ?_
  refine vl_v (q_assign rfl) rfl ?_
  refine vl_nil ?_
  refine (th_n ?_)
  refine VC_block ?_
  refine VC_loop (ι := Nat) (fun r => r ≤ 4) (fun r => [(1, vP b1 0), (2, vP b2 0), (3, vN r)]) (fun r => [.blk b1 65 (n64s (rN n r)), .blk b2 65 (n64s (List.replicate 16 0))]) (fun r => 4 - r) 0 (by omega) (Sub.cons (s := 1) rfl (Sub.cons (s := 2) rfl (Sub.cons (s := 3) rfl (Sub.nil _)))) (fun w H => St.pick H (ks := [1, 0]) (by decide) rfl) ?_
  rintro r hp
  have hl := (hrl r).trans hn
  have hMr := rN_bound hn hM r
  refine VC_seq ?_
  refine VC_seq ?_
  refine VC_region ?_
  refine vl_v (q_move rfl) rfl ?_
  refine vl_v (q_lss_n (q := 4) Try.underlying3 rfl rfl) rfl ?_
  refine vl_nil ?_
  refine (th_n ?_)
  refine VC_cond rfl (fun ht8 => ?_) (fun ht8 => ?_)
  · skip
    have ht8 := of_decide_eq_true ht8
    refine VC_skip ?_
    refine (th_n ?_)
    refine VC_seq ?_
    refine VC_block ?_
    refine VC_seq ?_
    refine VC_region ?_
    refine vl_v (q_assign rfl) rfl ?_
    refine vl_nil ?_
    refine (th_n ?_)
    refine VC_seq ?_
    refine VC_seq ?_
    refine VC_region ?_
    refine vl_v (q_assign rfl) rfl ?_
    refine vl_nil ?_
    refine (th_n ?_)
    refine VC_block ?_
    refine VC_loop (ι := Nat) (fun i => i ≤ 16) (fun i => [(1, vP b1 0), (2, vP b2 0), (3, vN r), (4, vW (rrSt (rN n r) i).2), (5, vN i)]) (fun i => [.blk b1 65 (n64s (rrSt (rN n r) i).1), .blk b2 65 (n64s (List.replicate 16 0))]) (fun i => 16 - i) 0 (by omega) (Sub.cons (s := 1) rfl (Sub.cons (s := 2) rfl (Sub.cons (s := 3) rfl (Sub.cons (s := 4) rfl (Sub.cons (s := 5) rfl (Sub.nil _)))))) (fun w H => H) ?_
    rintro i hp
    have hli := (rrSt_length (rN n r) i).trans hl
    obtain ⟨hb1, hb2⟩ := rr_bound hl hMr i hp
    refine VC_seq ?_
    refine VC_seq ?_
    refine VC_region ?_
    refine vl_v (q_move rfl) rfl ?_
    refine vl_v (q_lss_n (q := 16) Try.underlying3 rfl rfl) rfl ?_
    refine vl_nil ?_
    refine (th_n ?_)
    refine VC_cond rfl (fun ht12 => ?_) (fun ht12 => ?_)
    · skip
      have ht12 := of_decide_eq_true ht12
      refine VC_skip ?_
      refine (th_n ?_)
      refine VC_seq ?_
      refine VC_block ?_
      refine VC_seq ?_
      have ht12 : i < 16 := ht12
      have hbi := hb2 i ht12
      refine VC_region ?_
      refine vl_v (q_move rfl) rfl ?_
      refine vl_v (q_idxA Try.underlying65 sz62 rfl rfl (by omega) (r := _) (by rw [Nat.mul_one, Nat.zero_add])) rfl ?_
      refine vl_v (q_load 0 Try.underlying62 rfl rfl rfl (n64s_at (by omega))) rfl ?_
      refine vl_v (q_move rfl) rfl ?_
      refine vl_v (q_add_w rfl rfl (by omega)) rfl ?_
      refine vl_v (q_assign rfl) rfl ?_
      refine vl_nil ?_
      refine (th_n ?_)
      refine VC_seq ?_
      refine VC_region ?_
      refine vl_v (q_move rfl) rfl ?_
      refine vl_v (q_move rfl) rfl ?_
      refine vl_v (q_rem_n (q := 65536) rfl rfl (by omega)) rfl ?_
      refine vl_v (q_idxA Try.underlying65 sz62 rfl rfl (by omega) (r := _) (by rw [Nat.mul_one, Nat.zero_add])) rfl ?_
      refine l_stN 0 rfl rfl rfl sz62 (by omega) ?_
      simp only [List.set_cons_zero, List.set_cons_succ]
      refine vl_nil ?_
      refine (th_n ?_)
      refine VC_region ?_
      refine vl_v (q_move rfl) rfl ?_
      refine vl_v (q_quo_w (q := 65536) rfl rfl (by omega) (by omega)) rfl ?_
      refine vl_v (q_assign rfl) rfl ?_
      refine vl_nil ?_
      refine (bl_n (th_n ?_))
      refine VC_region ?_
      refine vl_v (q_move rfl) rfl ?_
      refine vl_v (q_add_n (q := 1) rfl rfl (by omega)) rfl ?_
      refine vl_v (q_assign rfl) rfl ?_
      refine vl_nil ?_
      refine (th_n ?_)
      refine ⟨i + 1, by omega, by omega, (Sub.cons (s := 1) rfl (Sub.cons (s := 2) rfl (Sub.cons (s := 3) rfl (Sub.cons (s := 4) rfl (Sub.cons (s := 5) rfl (Sub.nil _)))))), fun w H => H⟩
    · skip
      have ht12 := of_decide_eq_false ht12
      obtain rfl : i = 16 := by omega
      have hb0 := hb2 0 (by omega)
      refine VC_exit ?_
      refine (th_x (th_x (bl_xs (th_n ?_))))
      refine VC_region ?_
      refine vl_v (q_idxA (m := 0) Try.underlying65 sz62 rfl rfl (by omega) (r := _) (by rw [Nat.mul_one, Nat.zero_add])) rfl ?_
      refine vl_v (q_load 0 Try.underlying62 rfl rfl rfl (n64s_at (by omega))) rfl ?_
      refine vl_v (q_move rfl) rfl ?_
      refine vl_v (q_mul_w (p := 38) rfl rfl (by omega)) rfl ?_
      refine vl_v (q_add_w rfl rfl (by omega)) rfl ?_
      refine vl_v (q_idxA (m := 0) Try.underlying65 sz62 rfl rfl (by omega) (r := _) (by rw [Nat.mul_one, Nat.zero_add])) rfl ?_
      refine l_stN 0 rfl rfl rfl sz62 (by omega) ?_
      simp only [List.set_cons_zero, List.set_cons_succ]
      refine vl_nil ?_
      refine (bl_n (th_n ?_))
      refine VC_region ?_
      refine vl_v (q_move rfl) rfl ?_
      refine vl_v (q_add_n (q := 1) rfl rfl (by omega)) rfl ?_
      refine vl_v (q_assign rfl) rfl ?_
      refine vl_nil ?_
      refine (th_n ?_)
      refine ⟨r + 1, by omega, by omega, (Sub.cons (s := 1) rfl (Sub.cons (s := 2) rfl (Sub.cons (s := 3) rfl (Sub.nil _)))), fun w H => H⟩
  · skip
    have ht8 := of_decide_eq_false ht8
    obtain rfl : r = 4 := by omega
    refine VC_exit ?_
    refine (th_x (th_x (bl_xs (th_n ?_))))
    refine VC_seq ?_
    refine VC_region ?_
    refine vl_v (q_loads 0 Try.underlying65 rfl rfl rfl sz65 (by simp only [zb, zu, zw, zi, n64s_length, za]; omega)) rfl ?_
    refine l_storeA 1 rfl rfl rfl sz65 (by simp only [zb, zu, zw, zi, n64s_length, za]; omega) (by with_reducible first | exact bys_one _ | exact u32s_one _ | exact u64s_one _ | exact i64s_one _ | exact n64s_one _ | assumption) (by simp only [zs, zr, zm, za, zb, zu, zw, zi, n64s_length, zt, zd, zc, zn, *] <;> first | done | omega) ?_
    simp only [List.set_cons_zero, List.set_cons_succ]
    refine vl_nil ?_
    refine (th_n ?_)
    refine VC_ret ?_
    refine ⟨_, resC1 1 rfl Try.underlying65 rfl rfl rfl sz65 (by simp only [zb, zu, zw, zi, n64s_length, za]; omega), ?_⟩
    exact rfl
set_option maxHeartbeats 2000000 in
theorem radd_calls (a b : List Nat) (ha : digN a) (hb : digN b) (w : World) :
    Calls Try.prog 36 #[.agg (n64s a).toArray, .agg (n64s b).toArray] w fun e w' => e = .returned (.agg (n64s (raddL a b)).toArray) ∧ Kept [] w w' := by
  have hal := ha.1
  have hbl := hb.1
  have hrl := (raddL_dig ha hb).1
  refine enter (n := 21) (R := fun e L => e = .returned (.agg (n64s (raddL a b)).toArray)) [.agg (n64s a).toArray, .agg (n64s b).toArray] Try.func36 rfl rfl rfl (St.refl w) ?_ (fun e w' L' h H => ⟨h, H.kept⟩)
  refine VC_seq ?_
  refine VC_region ?_
  refine l_boxA rfl rfl ?_
  intro b2
  refine l_boxA rfl rfl ?_
  intro b3
  refine l_allocA zr65 rfl ?_
  intro b4
  simp only [u64s_rep]
  refine vl_nil ?_
  refine (th_n ?_)
  refine VC_seq ?_
  refine VC_seq ?_
  refine VC_region ?_
  refine vl_v (q_assign rfl) rfl ?_
  refine vl_nil ?_
  refine (th_n ?_)
  refine VC_block ?_
  refine VC_loop (ι := Nat) (fun i => i ≤ 16) (fun i => [(2, vP b2 0), (3, vP b3 0), (4, vP b4 0), (5, vN i)]) (fun i => [.blk b2 65 (n64s (raddSt a b i)), .blk b4 65 (n64s (List.replicate 16 0)), .blk b3 65 (n64s b)]) (fun i => 16 - i) 0 (by omega) (Sub.cons (s := 2) rfl (Sub.cons (s := 3) rfl (Sub.cons (s := 4) rfl (Sub.cons (s := 5) rfl (Sub.nil _))))) (fun w H => St.pick H (ks := [2, 0, 1]) (by decide) rfl) ?_
  rintro i hp
  have hl := (raddSt_length a b i).trans hal
  refine VC_seq ?_
  refine VC_seq ?_
  refine VC_region ?_
  refine vl_v (q_move rfl) rfl ?_
  refine vl_v (q_lss_n (q := 16) Try.underlying3 rfl rfl) rfl ?_
  refine vl_nil ?_
  refine (th_n ?_)
  refine VC_cond rfl (fun ht7 => ?_) (fun ht7 => ?_)
  · skip
    have ht7 := of_decide_eq_true ht7
    refine VC_skip ?_
    refine (th_n ?_)
    refine VC_seq ?_
    refine VC_block ?_
    have ht7 : i < 16 := ht7
    have h1 := ha.2 i ht7
    have h2 := hb.2 i ht7
    have hg := cz_get (raddSt a b i) i
    rw [cz_raddSt, addSt_get ((cz_length a).trans hal) i (by omega), if_neg (by omega), cz_get] at hg
    refine VC_drawV 8 [[], [], [1], [2], [], [4], [5], [3, 6], [0, 1, 2, 3, 4, 5, 6, 7], [8, 7, 0, 1, 2, 3, 4, 5, 6]] [[], [], [1], [1, 2], [], [4], [4, 5], [1, 2, 3, 4, 5, 6], [0, 1, 2, 3, 4, 5, 6, 7], [0, 1, 2, 3, 4, 5, 6, 7, 8]] rfl (by kernel_rfl) ?_
    refine qv_v (q_move rfl) ?_
    refine qv_v (q_move rfl) ?_
    refine qv_v (q_idxA Try.underlying65 sz62 rfl rfl (by omega) (r := _) (by rw [Nat.mul_one, Nat.zero_add])) ?_
    refine qv_v (q_load 0 Try.underlying62 rfl rfl rfl (n64s_at (by omega))) ?_
    refine qv_v (q_move rfl) ?_
    refine qv_v (q_idxA Try.underlying65 sz62 rfl rfl (by omega) (r := _) (by rw [Nat.mul_one, Nat.zero_add])) ?_
    refine qv_v (q_load 2 Try.underlying62 rfl rfl rfl (n64s_at (by omega))) ?_
    refine qv_v (q_add_w rfl rfl (by omega)) ?_
    refine qv_end ?_
    refine VL.keep (Sub.cons (s := 2) rfl (Sub.cons (s := 3) rfl (Sub.cons (s := 4) rfl (Sub.cons (s := 5) rfl (Sub.cons (s := 7) rfl (Sub.cons (s := 10) rfl (Sub.cons (s := 17) rfl (Sub.nil _)))))))) ?_
    refine vl_v (q_idxA Try.underlying65 sz62 rfl rfl (by omega) (r := _) (by rw [Nat.mul_one, Nat.zero_add])) rfl ?_
    refine l_stN 0 rfl rfl rfl sz62 (by omega) ?_
    simp only [List.set_cons_zero, List.set_cons_succ]
    refine vl_nil ?_
    refine (qn_n (bl_n (th_n ?_)))
    refine VC_region ?_
    refine vl_v (q_move rfl) rfl ?_
    refine vl_v (q_add_n (q := 1) rfl rfl (by omega)) rfl ?_
    refine vl_v (q_assign rfl) rfl ?_
    refine vl_nil ?_
    refine (th_n ?_)
    refine ⟨i + 1, by omega, by omega, (Sub.cons (s := 2) rfl (Sub.cons (s := 3) rfl (Sub.cons (s := 4) rfl (Sub.cons (s := 5) rfl (Sub.nil _))))), fun w H => H⟩
  · skip
    have ht7 := of_decide_eq_false ht7
    obtain rfl : i = 16 := by omega
    refine VC_exit ?_
    refine (th_x (th_x (bl_xs (th_n ?_))))
    refine VC_seq ?_
    refine VC_region ?_
    refine vl_v (q_loads 0 Try.underlying65 rfl rfl rfl sz65 (by simp only [zb, zu, zw, zi, n64s_length, za]; omega)) rfl ?_
    refine vl_v (q_callV Try.func56 rfl rfl rfl (fun w1 H1 => carried_calls (raddSt a b 16) hl (fun j hj => by have := radd_bound ha hb j hj; omega) w1)) rfl ?_
    rw [show rN (raddSt a b 16) 4 = raddL a b from rfl]
    refine l_storeA 1 rfl rfl rfl sz65 (by simp only [zb, zu, zw, zi, n64s_length, za]; omega) (by with_reducible first | exact bys_one _ | exact u32s_one _ | exact u64s_one _ | exact i64s_one _ | exact n64s_one _ | assumption) (by simp only [zs, zr, zm, za, zb, zu, zw, zi, n64s_length, zt, zd, zc, zn, *] <;> first | done | omega) ?_
    simp only [List.set_cons_zero, List.set_cons_succ]
    refine vl_nil ?_
    refine (th_n ?_)
    refine VC_ret ?_
    refine ⟨_, resC1 1 rfl Try.underlying65 rfl rfl rfl sz65 (by simp only [zb, zu, zw, zi, n64s_length, za]; omega), ?_⟩
    exact rfl
set_option maxHeartbeats 2000000 in
theorem rsub_calls (a b : List Nat) (ha : digN a) (hb : digN b) (w : World) :
    Calls Try.prog 37 #[.agg (n64s a).toArray, .agg (n64s b).toArray] w fun e w' => e = .returned (.agg (n64s (rsubL a b)).toArray) ∧ Kept [] w w' := by
  have hal := ha.1
  have hbl := hb.1
  have hrl := (rsubL_dig ha hb).1
  refine enter (n := 26) (R := fun e L => e = .returned (.agg (n64s (rsubL a b)).toArray)) [.agg (n64s a).toArray, .agg (n64s b).toArray] Try.func37 rfl rfl rfl (St.refl w) ?_ (fun e w' L' h H => ⟨h, H.kept⟩)
  refine VC_seq ?_
  refine VC_region ?_
  refine l_boxA rfl rfl ?_
  intro b2
  refine l_boxA rfl rfl ?_
  intro b3
  refine l_allocA zr65 rfl ?_
  intro b4
  simp only [u64s_rep]
  refine vl_nil ?_
  refine (th_n ?_)
  refine VC_seq ?_
  refine VC_seq ?_
  refine VC_region ?_
  refine vl_v (q_assign rfl) rfl ?_
  refine vl_nil ?_
  refine (th_n ?_)
  refine VC_block ?_
  refine VC_loop (ι := Nat) (fun i => i ≤ 16) (fun i => [(2, vP b2 0), (3, vP b3 0), (4, vP b4 0), (5, vN i)]) (fun i => [.blk b2 65 (n64s (rsubSt a b i)), .blk b4 65 (n64s (List.replicate 16 0)), .blk b3 65 (n64s b)]) (fun i => 16 - i) 0 (by omega) (Sub.cons (s := 2) rfl (Sub.cons (s := 3) rfl (Sub.cons (s := 4) rfl (Sub.cons (s := 5) rfl (Sub.nil _))))) (fun w H => St.pick H (ks := [2, 0, 1]) (by decide) rfl) ?_
  rintro i hp
  have hl := (rsubSt_length a b i).trans hal
  refine VC_seq ?_
  refine VC_seq ?_
  refine VC_region ?_
  refine vl_v (q_move rfl) rfl ?_
  refine vl_v (q_lss_n (q := 16) Try.underlying3 rfl rfl) rfl ?_
  refine vl_nil ?_
  refine (th_n ?_)
  refine VC_cond rfl (fun ht8 => ?_) (fun ht8 => ?_)
  · skip
    have ht8 := of_decide_eq_true ht8
    refine VC_skip ?_
    refine (th_n ?_)
    refine VC_seq ?_
    refine VC_block ?_
    refine VC_seq ?_
    refine VC_region ?_
    have ht8 : i < 16 := ht8
    have h1 := ha.2 i ht8
    have h2 := hb.2 i ht8
    have h3 : 130996 ≤ fourN i ∧ fourN i ≤ 131070 := by unfold fourN; split <;> omega
    have hg := rsubSt_get (b := b) hal i (by omega) i
    rw [if_neg (show ¬ i < i by omega)] at hg
    refine vl_v (q_assign rfl) rfl ?_
    refine vl_nil ?_
    refine (th_n ?_)
    refine VC_seq ?_
    refine VC_seq ?_
    refine VC_region ?_
    refine vl_v (q_move rfl) rfl ?_
    refine vl_v (q_eql_n (q := 0) Try.underlying3 rfl rfl) rfl ?_
    refine vl_nil ?_
    refine (th_n ?_)
    refine VC_cond rfl (fun ht12 => ?_) (fun ht12 => ?_)
    · skip
      have ht12 : i = 0 := of_decide_eq_true ht12
      refine VC_region ?_
      refine vl_v (q_as (v := vW (fourN i)) (q_assign rfl) (by rw [ht12]; rfl)) rfl ?_
      refine vl_nil ?_
      refine (th_n ?_)
      refine VC_drawV 10 [[], [], [1], [2], [], [3, 4], [], [6], [7], [5, 8], [0, 1, 2, 3, 4, 5, 6, 7, 8, 9], [10, 9, 0, 1, 2, 3, 4, 5, 6, 7, 8]] [[], [], [1], [1, 2], [], [1, 2, 3, 4], [], [6], [6, 7], [1, 2, 3, 4, 5, 6, 7, 8], [0, 1, 2, 3, 4, 5, 6, 7, 8, 9], [0, 1, 2, 3, 4, 5, 6, 7, 8, 9, 10]] rfl (by kernel_rfl) ?_
      refine qv_v (q_move rfl) ?_
      refine qv_v (q_move rfl) ?_
      refine qv_v (q_idxA Try.underlying65 sz62 rfl rfl (by omega) (r := _) (by rw [Nat.mul_one, Nat.zero_add])) ?_
      refine qv_v (q_load 0 Try.underlying62 rfl rfl rfl (n64s_at (by omega))) ?_
      refine qv_v (q_as (v := vW (fourN i)) (q_move rfl) (by rfl)) ?_
      refine qv_v (q_add_w rfl rfl (by omega)) ?_
      refine qv_v (q_move rfl) ?_
      refine qv_v (q_idxA Try.underlying65 sz62 rfl rfl (by omega) (r := _) (by rw [Nat.mul_one, Nat.zero_add])) ?_
      refine qv_v (q_load 2 Try.underlying62 rfl rfl rfl (n64s_at (by omega))) ?_
      refine qv_v (q_sub_w rfl rfl (by omega) (by omega)) ?_
      refine qv_end ?_
      refine VL.keep (Sub.cons (s := 2) rfl (Sub.cons (s := 3) rfl (Sub.cons (s := 4) rfl (Sub.cons (s := 5) rfl (Sub.cons (s := 8) rfl (Sub.cons (s := 6) rfl (Sub.cons (s := 12) rfl (Sub.cons (s := 13) rfl (Sub.cons (s := 22) rfl (Sub.nil _)))))))))) ?_
      refine vl_v (q_idxA Try.underlying65 sz62 rfl rfl (by omega) (r := _) (by rw [Nat.mul_one, Nat.zero_add])) rfl ?_
      refine l_stN 0 rfl rfl rfl sz62 (by omega) ?_
      simp only [List.set_cons_zero, List.set_cons_succ]
      refine vl_nil ?_
      refine (qn_n (bl_n (th_n ?_)))
      refine VC_region ?_
      refine vl_v (q_move rfl) rfl ?_
      refine vl_v (q_add_n (q := 1) rfl rfl (by omega)) rfl ?_
      refine vl_v (q_assign rfl) rfl ?_
      refine vl_nil ?_
      refine (th_n ?_)
      refine ⟨i + 1, by omega, by omega, (Sub.cons (s := 2) rfl (Sub.cons (s := 3) rfl (Sub.cons (s := 4) rfl (Sub.cons (s := 5) rfl (Sub.nil _))))), fun w H => H⟩
    · skip
      have ht12 : ¬ i = 0 := of_decide_eq_false ht12
      refine VC_skip ?_
      refine (th_n ?_)
      refine VC_drawV 10 [[], [], [1], [2], [], [3, 4], [], [6], [7], [5, 8], [0, 1, 2, 3, 4, 5, 6, 7, 8, 9], [10, 9, 0, 1, 2, 3, 4, 5, 6, 7, 8]] [[], [], [1], [1, 2], [], [1, 2, 3, 4], [], [6], [6, 7], [1, 2, 3, 4, 5, 6, 7, 8], [0, 1, 2, 3, 4, 5, 6, 7, 8, 9], [0, 1, 2, 3, 4, 5, 6, 7, 8, 9, 10]] rfl (by kernel_rfl) ?_
      refine qv_v (q_move rfl) ?_
      refine qv_v (q_move rfl) ?_
      refine qv_v (q_idxA Try.underlying65 sz62 rfl rfl (by omega) (r := _) (by rw [Nat.mul_one, Nat.zero_add])) ?_
      refine qv_v (q_load 0 Try.underlying62 rfl rfl rfl (n64s_at (by omega))) ?_
      refine qv_v (q_as (v := vW (fourN i)) (q_move rfl) (by unfold fourN; rw [if_neg ht12]; rfl)) ?_
      refine qv_v (q_add_w rfl rfl (by omega)) ?_
      refine qv_v (q_move rfl) ?_
      refine qv_v (q_idxA Try.underlying65 sz62 rfl rfl (by omega) (r := _) (by rw [Nat.mul_one, Nat.zero_add])) ?_
      refine qv_v (q_load 2 Try.underlying62 rfl rfl rfl (n64s_at (by omega))) ?_
      refine qv_v (q_sub_w rfl rfl (by omega) (by omega)) ?_
      refine qv_end ?_
      refine VL.keep (Sub.cons (s := 2) rfl (Sub.cons (s := 3) rfl (Sub.cons (s := 4) rfl (Sub.cons (s := 5) rfl (Sub.cons (s := 8) rfl (Sub.cons (s := 6) rfl (Sub.cons (s := 12) rfl (Sub.cons (s := 13) rfl (Sub.cons (s := 22) rfl (Sub.nil _)))))))))) ?_
      refine vl_v (q_idxA Try.underlying65 sz62 rfl rfl (by omega) (r := _) (by rw [Nat.mul_one, Nat.zero_add])) rfl ?_
      refine l_stN 0 rfl rfl rfl sz62 (by omega) ?_
      simp only [List.set_cons_zero, List.set_cons_succ]
      refine vl_nil ?_
      refine (qn_n (bl_n (th_n ?_)))
      refine VC_region ?_
      refine vl_v (q_move rfl) rfl ?_
      refine vl_v (q_add_n (q := 1) rfl rfl (by omega)) rfl ?_
      refine vl_v (q_assign rfl) rfl ?_
      refine vl_nil ?_
      refine (th_n ?_)
      refine ⟨i + 1, by omega, by omega, (Sub.cons (s := 2) rfl (Sub.cons (s := 3) rfl (Sub.cons (s := 4) rfl (Sub.cons (s := 5) rfl (Sub.nil _))))), fun w H => H⟩
  · skip
    have ht8 := of_decide_eq_false ht8
    obtain rfl : i = 16 := by omega
    refine VC_exit ?_
    refine (th_x (th_x (bl_xs (th_n ?_))))
    refine VC_seq ?_
    refine VC_region ?_
    refine vl_v (q_loads 0 Try.underlying65 rfl rfl rfl sz65 (by simp only [zb, zu, zw, zi, n64s_length, za]; omega)) rfl ?_
    refine vl_v (q_callV Try.func56 rfl rfl rfl (fun w1 H1 => carried_calls (rsubSt a b 16) hl (fun j hj => by have := rsub_bound ha hb j hj; omega) w1)) rfl ?_
    rw [show rN (rsubSt a b 16) 4 = rsubL a b from rfl]
    refine l_storeA 1 rfl rfl rfl sz65 (by simp only [zb, zu, zw, zi, n64s_length, za]; omega) (by with_reducible first | exact bys_one _ | exact u32s_one _ | exact u64s_one _ | exact i64s_one _ | exact n64s_one _ | assumption) (by simp only [zs, zr, zm, za, zb, zu, zw, zi, n64s_length, zt, zd, zc, zn, *] <;> first | done | omega) ?_
    simp only [List.set_cons_zero, List.set_cons_succ]
    refine vl_nil ?_
    refine (th_n ?_)
    refine VC_ret ?_
    refine ⟨_, resC1 1 rfl Try.underlying65 rfl rfl rfl sz65 (by simp only [zb, zu, zw, zi, n64s_length, za]; omega), ?_⟩
    exact rfl
theorem nat_mul_le {x y : Nat} (hx : x ≤ 65535) (hy : y ≤ 65535) : x * y ≤ 4294836225 := Nat.mul_le_mul hx hy
theorem rmulIn_b {a b : List Nat} (ha : digN a) (hb : digN b) {i k : Nat} (hi : i < 16) (hk : k ≤ 16) (j : Nat) (hj : j < 32) : (rmulIn a b i (rmulOut a b i) k).getD j 0 ≤ 1000000000000000 := by
  have h := (mulIn_bound (i := i) ha.okE.all hb.okE.all (by omega) hi (mulOut_length (cz a) (cz b) i) (mulOut_bound ha.okE.all hb.okE.all (by omega) i (by omega)) k hk j hj).1
  rw [← cz_rmulOut, ← cz_rmulIn, cz_get] at h
  omega
theorem rmulOut_b {a b : List Nat} (ha : digN a) (hb : digN b) (j : Nat) (hj : j < 32) : (rmulOut a b 16).getD j 0 ≤ 1000000000000000 := by
  have h := mulOut_bound ha.okE.all hb.okE.all (by omega) 16 (by omega) j hj
  rw [← cz_rmulOut, cz_get] at h
  omega
set_option maxHeartbeats 4000000 in
theorem rmul_calls (a b : List Nat) (ha : digN a) (hb : digN b) (w : World) :
    Calls Try.prog 38 #[.agg (n64s a).toArray, .agg (n64s b).toArray] w fun e w' => e = .returned (.agg (n64s (rmulL a b)).toArray) ∧ Kept [] w w' := by
  have hal := ha.1
  have hbl := hb.1
  have hrl := (rmulL_dig ha hb).1
  have hml := rmulOut_length a b
  refine enter (n := 52) (R := fun e L => e = .returned (.agg (n64s (rmulL a b)).toArray)) [.agg (n64s a).toArray, .agg (n64s b).toArray] Try.func38 rfl rfl rfl (St.refl w) ?_ (fun e w' L' h H => ⟨h, H.kept⟩)
  refine VC_seq ?_
  refine VC_region ?_
  refine l_boxA rfl rfl ?_
  intro b2
  refine l_boxA rfl rfl ?_
  intro b3
  refine l_allocA zr65 rfl ?_
  intro b4
  simp only [u64s_rep]
  refine vl_nil ?_
  refine (th_n ?_)
  refine VC_seq ?_
  refine VC_region ?_
  refine l_allocA zr91 rfl ?_
  intro b5
  simp only [u64s_rep]
  refine vl_nil ?_
  refine (th_n ?_)
  refine VC_seq ?_
  refine VC_seq ?_
  refine VC_region ?_
  refine vl_v (q_assign rfl) rfl ?_
  refine vl_nil ?_
  refine (th_n ?_)
  refine VC_block ?_
  refine VC_loop (ι := Nat) (fun i => i ≤ 16) (fun i => [(2, vP b2 0), (3, vP b3 0), (4, vP b4 0), (5, vP b5 0), (6, vN i)]) (fun i => [.blk b5 91 (n64s (rmulOut a b i)), .blk b4 65 (n64s (List.replicate 16 0)), .blk b3 65 (n64s b), .blk b2 65 (n64s a)]) (fun i => 16 - i) 0 (by omega) (Sub.cons (s := 2) rfl (Sub.cons (s := 3) rfl (Sub.cons (s := 4) rfl (Sub.cons (s := 5) rfl (Sub.cons (s := 6) rfl (Sub.nil _)))))) (fun w H => H) ?_
  rintro i hp
  refine VC_seq ?_
  refine VC_seq ?_
  refine VC_region ?_
  refine vl_v (q_move rfl) rfl ?_
  refine vl_v (q_lss_n (q := 16) Try.underlying3 rfl rfl) rfl ?_
  refine vl_nil ?_
  refine (th_n ?_)
  refine VC_cond rfl (fun ht11 => ?_) (fun ht11 => ?_)
  · skip
    have ht11 := of_decide_eq_true ht11
    refine VC_skip ?_
    refine (th_n ?_)
    refine VC_seq ?_
    refine VC_block ?_
    refine VC_seq ?_
    refine VC_region ?_
    refine vl_v (q_assign rfl) rfl ?_
    refine vl_nil ?_
    refine (th_n ?_)
    refine VC_block ?_
    refine VC_loop (ι := Nat) (fun k => k ≤ 16) (fun k => [(2, vP b2 0), (3, vP b3 0), (4, vP b4 0), (5, vP b5 0), (6, vN i), (7, vN k)]) (fun k => [.blk b5 91 (n64s (rmulIn a b i (rmulOut a b i) k)), .blk b4 65 (n64s (List.replicate 16 0)), .blk b3 65 (n64s b), .blk b2 65 (n64s a)]) (fun k => 16 - k) 0 (by omega) (Sub.cons (s := 2) rfl (Sub.cons (s := 3) rfl (Sub.cons (s := 4) rfl (Sub.cons (s := 5) rfl (Sub.cons (s := 6) rfl (Sub.cons (s := 7) rfl (Sub.nil _))))))) (fun w H => H) ?_
    rintro k hp
    have hil := (rmulIn_length a b i (rmulOut a b i) k).trans (hml i)
    refine VC_seq ?_
    refine VC_seq ?_
    refine VC_region ?_
    refine vl_v (q_move rfl) rfl ?_
    refine vl_v (q_lss_n (q := 16) Try.underlying3 rfl rfl) rfl ?_
    refine vl_nil ?_
    refine (th_n ?_)
    refine VC_cond rfl (fun ht15 => ?_) (fun ht15 => ?_)
    · skip
      have ht15 := of_decide_eq_true ht15
      refine VC_skip ?_
      refine (th_n ?_)
      refine VC_seq ?_
      refine VC_block ?_
      have ht11 : i < 16 := ht11
      have ht15 : k < 16 := ht15
      have hmb := rmulIn_b ha hb ht11 (k := k) (by omega) (i + k) (by omega)
      have hpb := nat_mul_le (ha.2 i ht11) (hb.2 k ht15)
      refine VC_drawV 16 [[], [], [0, 1], [], [], [3, 4], [5], [6], [], [8], [9], [], [11], [12], [10, 13], [7, 14], [2, 0, 1, 3, 4, 5, 6, 7, 8, 9, 10, 11, 12, 13, 14, 15], [16, 15, 0, 1, 2, 3, 4, 5, 6, 7, 8, 9, 10, 11, 12, 13, 14]] [[], [], [0, 1], [], [], [3, 4], [3, 4, 5], [3, 4, 5, 6], [], [8], [8, 9], [], [11], [11, 12], [8, 9, 10, 11, 12, 13], [3, 4, 5, 6, 7, 8, 9, 10, 11, 12, 13, 14], [0, 1, 2, 3, 4, 5, 6, 7, 8, 9, 10, 11, 12, 13, 14, 15], [0, 1, 2, 3, 4, 5, 6, 7, 8, 9, 10, 11, 12, 13, 14, 15, 16]] rfl (by kernel_rfl) ?_
      refine qv_v (q_move rfl) ?_
      refine qv_v (q_move rfl) ?_
      refine qv_v (q_add_n rfl rfl (by omega)) ?_
      refine qv_v (q_move rfl) ?_
      refine qv_v (q_move rfl) ?_
      refine qv_v (q_add_n rfl rfl (by omega)) ?_
      refine qv_v (q_idxA Try.underlying91 sz62 rfl rfl (by omega) (r := _) (by rw [Nat.mul_one, Nat.zero_add])) ?_
      refine qv_v (q_load 0 Try.underlying62 rfl rfl rfl (n64s_at (by omega))) ?_
      refine qv_v (q_move rfl) ?_
      refine qv_v (q_idxA Try.underlying65 sz62 rfl rfl (by omega) (r := _) (by rw [Nat.mul_one, Nat.zero_add])) ?_
      refine qv_v (q_load 3 Try.underlying62 rfl rfl rfl (n64s_at (by omega))) ?_
      refine qv_v (q_move rfl) ?_
      refine qv_v (q_idxA Try.underlying65 sz62 rfl rfl (by omega) (r := _) (by rw [Nat.mul_one, Nat.zero_add])) ?_
      refine qv_v (q_load 2 Try.underlying62 rfl rfl rfl (n64s_at (by omega))) ?_
      refine qv_v (q_mul_w rfl rfl (by omega)) ?_
      refine qv_v (q_add_w rfl rfl (by omega)) ?_
      refine qv_end ?_
      refine VL.keep (Sub.cons (s := 2) rfl (Sub.cons (s := 3) rfl (Sub.cons (s := 4) rfl (Sub.cons (s := 5) rfl (Sub.cons (s := 6) rfl (Sub.cons (s := 7) rfl (Sub.cons (s := 15) rfl (Sub.cons (s := 20) rfl (Sub.cons (s := 33) rfl (Sub.nil _)))))))))) ?_
      refine vl_v (q_idxA Try.underlying91 sz62 rfl rfl (by omega) (r := _) (by rw [Nat.mul_one, Nat.zero_add])) rfl ?_
      refine l_stN 0 rfl rfl rfl sz62 (by omega) ?_
      simp only [List.set_cons_zero, List.set_cons_succ]
      refine vl_nil ?_
      refine (qn_n (bl_n (th_n ?_)))
      refine VC_region ?_
      refine vl_v (q_move rfl) rfl ?_
      refine vl_v (q_add_n (q := 1) rfl rfl (by omega)) rfl ?_
      refine vl_v (q_assign rfl) rfl ?_
      refine vl_nil ?_
      refine (th_n ?_)
      refine ⟨k + 1, by omega, by omega, (Sub.cons (s := 2) rfl (Sub.cons (s := 3) rfl (Sub.cons (s := 4) rfl (Sub.cons (s := 5) rfl (Sub.cons (s := 6) rfl (Sub.cons (s := 7) rfl (Sub.nil _))))))), fun w H => H⟩
    · skip
      have ht15 := of_decide_eq_false ht15
      obtain rfl : k = 16 := by omega
      refine VC_exit ?_
      refine (th_x (th_x (bl_xs (bl_n (th_n ?_)))))
      refine VC_region ?_
      refine vl_v (q_move rfl) rfl ?_
      refine vl_v (q_add_n (q := 1) rfl rfl (by omega)) rfl ?_
      refine vl_v (q_assign rfl) rfl ?_
      refine vl_nil ?_
      refine (th_n ?_)
      refine ⟨i + 1, by omega, by omega, (Sub.cons (s := 2) rfl (Sub.cons (s := 3) rfl (Sub.cons (s := 4) rfl (Sub.cons (s := 5) rfl (Sub.cons (s := 6) rfl (Sub.nil _)))))), fun w H => H⟩
  · skip
    have ht11 := of_decide_eq_false ht11
    obtain rfl : i = 16 := by omega
    have hml16 := hml 16
    refine VC_exit ?_
    refine (th_x (th_x (bl_xs (th_n ?_))))
    refine VC_seq ?_
    refine VC_region ?_
    refine l_allocA zr65 rfl ?_
    intro b8
    simp only [u64s_rep]
    refine vl_nil ?_
    refine (th_n ?_)
    refine VC_seq ?_
    refine VC_seq ?_
    refine VC_region ?_
    refine vl_v (q_assign rfl) rfl ?_
    refine vl_nil ?_
    refine (th_n ?_)
    refine VC_block ?_
    refine VC_loop (ι := Nat) (fun i => i ≤ 16) (fun i => [(4, vP b4 0), (5, vP b5 0), (8, vP b8 0), (9, vN i)]) (fun i => [.blk b8 65 (n64s (rfoldSt (rmulOut a b 16) i)), .blk b5 91 (n64s (rmulOut a b 16)), .blk b4 65 (n64s (List.replicate 16 0))]) (fun i => 16 - i) 0 (by omega) (Sub.cons (s := 4) rfl (Sub.cons (s := 5) rfl (Sub.cons (s := 8) rfl (Sub.cons (s := 9) rfl (Sub.nil _))))) (fun w H => St.pick H (ks := [0, 1, 2]) (by decide) rfl) ?_
    rintro i hp
    have hfo := rfoldSt_length (rmulOut a b 16) i
    refine VC_seq ?_
    refine VC_seq ?_
    refine VC_region ?_
    refine vl_v (q_move rfl) rfl ?_
    refine vl_v (q_lss_n (q := 16) Try.underlying3 rfl rfl) rfl ?_
    refine vl_nil ?_
    refine (th_n ?_)
    refine VC_cond rfl (fun ht36 => ?_) (fun ht36 => ?_)
    · skip
      have ht36 := of_decide_eq_true ht36
      refine VC_skip ?_
      refine (th_n ?_)
      refine VC_seq ?_
      refine VC_block ?_
      have ht36 : i < 16 := ht36
      have hm1 := rmulOut_b ha hb i (by omega)
      have hm2 := rmulOut_b ha hb (i + 16) (by omega)
      refine VC_drawV 10 [[], [], [1], [2], [], [4], [5], [6], [7], [3, 8], [0, 1, 2, 3, 4, 5, 6, 7, 8, 9], [10, 9, 0, 1, 2, 3, 4, 5, 6, 7, 8]] [[], [], [1], [1, 2], [], [4], [4, 5], [4, 5, 6], [4, 5, 6, 7], [1, 2, 3, 4, 5, 6, 7, 8], [0, 1, 2, 3, 4, 5, 6, 7, 8, 9], [0, 1, 2, 3, 4, 5, 6, 7, 8, 9, 10]] rfl (by kernel_rfl) ?_
      refine qv_v (q_move rfl) ?_
      refine qv_v (q_move rfl) ?_
      refine qv_v (q_idxA Try.underlying91 sz62 rfl rfl (by omega) (r := _) (by rw [Nat.mul_one, Nat.zero_add])) ?_
      refine qv_v (q_load 1 Try.underlying62 rfl rfl rfl (n64s_at (by omega))) ?_
      refine qv_v (q_move rfl) ?_
      refine qv_v (q_add_n (q := 16) rfl rfl (by omega)) ?_
      refine qv_v (q_idxA Try.underlying91 sz62 rfl rfl (by omega) (r := _) (by rw [Nat.mul_one, Nat.zero_add])) ?_
      refine qv_v (q_load 1 Try.underlying62 rfl rfl rfl (n64s_at (by omega))) ?_
      refine qv_v (q_mul_w (p := 38) rfl rfl (by omega)) ?_
      refine qv_v (q_add_w rfl rfl (by omega)) ?_
      refine qv_end ?_
      refine VL.keep (Sub.cons (s := 4) rfl (Sub.cons (s := 5) rfl (Sub.cons (s := 8) rfl (Sub.cons (s := 9) rfl (Sub.cons (s := 36) rfl (Sub.cons (s := 39) rfl (Sub.cons (s := 48) rfl (Sub.nil _)))))))) ?_
      refine vl_v (q_idxA Try.underlying65 sz62 rfl rfl (by omega) (r := _) (by rw [Nat.mul_one, Nat.zero_add])) rfl ?_
      refine l_stN 0 rfl rfl rfl sz62 (by omega) ?_
      simp only [List.set_cons_zero, List.set_cons_succ]
      refine vl_nil ?_
      refine (qn_n (bl_n (th_n ?_)))
      refine VC_region ?_
      refine vl_v (q_move rfl) rfl ?_
      refine vl_v (q_add_n (q := 1) rfl rfl (by omega)) rfl ?_
      refine vl_v (q_assign rfl) rfl ?_
      refine vl_nil ?_
      refine (th_n ?_)
      refine ⟨i + 1, by omega, by omega, (Sub.cons (s := 4) rfl (Sub.cons (s := 5) rfl (Sub.cons (s := 8) rfl (Sub.cons (s := 9) rfl (Sub.nil _))))), fun w H => H⟩
    · skip
      have ht36 := of_decide_eq_false ht36
      obtain rfl : i = 16 := by omega
      refine VC_exit ?_
      refine (th_x (th_x (bl_xs (th_n ?_))))
      refine VC_seq ?_
      refine VC_region ?_
      refine vl_v (q_loads 0 Try.underlying65 rfl rfl rfl sz65 (by simp only [zb, zu, zw, zi, n64s_length, za]; omega)) rfl ?_
      refine vl_v (q_callV Try.func56 rfl rfl rfl (fun w1 H1 => carried_calls (rfoldSt (rmulOut a b 16) 16) hfo (rmul_bound ha hb) w1)) rfl ?_
      rw [show rN (rfoldSt (rmulOut a b 16) 16) 4 = rmulL a b from rfl]
      refine l_storeA 2 rfl rfl rfl sz65 (by simp only [zb, zu, zw, zi, n64s_length, za]; omega) (by with_reducible first | exact bys_one _ | exact u32s_one _ | exact u64s_one _ | exact i64s_one _ | exact n64s_one _ | assumption) (by simp only [zs, zr, zm, za, zb, zu, zw, zi, n64s_length, zt, zd, zc, zn, *] <;> first | done | omega) ?_
      simp only [List.set_cons_zero, List.set_cons_succ]
      refine vl_nil ?_
      refine (th_n ?_)
      refine VC_ret ?_
      refine ⟨_, resC1 2 rfl Try.underlying65 rfl rfl rfl sz65 (by simp only [zb, zu, zw, zi, n64s_length, za]; omega), ?_⟩
      exact rfl
end Go.Proofs.Ytabmfndiepmcgaa
end
section
namespace Go.Proofs.Ytabmfndiepmcgaa
open Go.RowKit Go.PBYtabmfndiepmcgaa
set_option linter.unusedVariables false
set_option linter.unusedSimpArgs false
set_option maxRecDepth 10000
theorem prime_calls (i : Nat) (w : World) :
    Calls Try.prog 58 #[vN i] w fun e w' => e = .returned (vW (pDn i)) ∧ Kept [] w w' := by
  refine enter (n := 7) (R := fun e L => e = .returned (vW (pDn i))) [vN i] Try.func58 rfl rfl rfl (St.refl w) ?_ (fun e w' L' h H => ⟨h, H.kept⟩)
  refine VC_seq ?_
  refine VC_region ?_
  refine vl_v (q_assign rfl) rfl ?_
  refine vl_nil ?_
  refine (th_n ?_)
  refine VC_seq ?_
  refine VC_seq ?_
  refine VC_region ?_
  refine vl_v (q_move rfl) rfl ?_
  refine vl_v (q_eql_n (q := 0) Try.underlying3 rfl rfl) rfl ?_
  refine vl_nil ?_
  refine (th_n ?_)
  refine VC_cond rfl (fun ht4 => ?_) (fun ht4 => ?_)
  · skip
    have ht4 : i = 0 := of_decide_eq_true ht4
    refine VC_seq ?_
    refine VC_region ?_
    refine vl_v (q_as (v := vW (pDn i)) (q_assign rfl) (by rw [ht4]; rfl)) rfl ?_
    refine vl_nil ?_
    refine (th_n ?_)
    refine VC_ret ?_
    refine (th_r ?_)
    refine ⟨_, res1 rfl rfl, ?_⟩
    exact rfl
  · skip
    have ht4 : ¬ i = 0 := of_decide_eq_false ht4
    refine VC_skip ?_
    refine (th_n ?_)
    refine VC_seq ?_
    refine VC_seq ?_
    refine VC_region ?_
    refine vl_v (q_move rfl) rfl ?_
    refine vl_v (q_eql_n (q := 15) Try.underlying3 rfl rfl) rfl ?_
    refine vl_nil ?_
    refine (th_n ?_)
    refine VC_cond rfl (fun ht6 => ?_) (fun ht6 => ?_)
    · skip
      have ht6 : i = 15 := of_decide_eq_true ht6
      refine VC_seq ?_
      refine VC_region ?_
      refine vl_v (q_as (v := vW (pDn i)) (q_assign rfl) (by rw [ht6]; rfl)) rfl ?_
      refine vl_nil ?_
      refine (th_n ?_)
      refine VC_ret ?_
      refine (th_r ?_)
      refine ⟨_, res1 rfl rfl, ?_⟩
      exact rfl
    · skip
      have ht6 : ¬ i = 15 := of_decide_eq_false ht6
      refine VC_skip ?_
      refine (th_n ?_)
      refine VC_seq ?_
      refine VC_region ?_
      refine vl_v (q_as (v := vW (pDn i)) (q_assign rfl) (by unfold pDn; rw [if_neg ht4, if_neg ht6]; rfl)) rfl ?_
      refine vl_nil ?_
      refine (th_n ?_)
      refine VC_ret ?_
      refine ⟨_, res1 rfl rfl, ?_⟩
      exact rfl
set_option maxHeartbeats 2000000 in
theorem least_calls (n : List Nat) (hn : digN n) (w : World) :
    Calls Try.prog 57 #[.agg (n64s n).toArray] w fun e w' => e = .returned (.bool (leB n)) ∧ Kept [] w w' := by
  have hnl := hn.1
  refine enter (n := 20) (R := fun e L => e = .returned (.bool (leB n))) [.agg (n64s n).toArray] Try.func57 rfl rfl rfl (St.refl w) ?_ (fun e w' L' h H => ⟨h, H.kept⟩)
  refine VC_seq ?_
  refine VC_region ?_
  refine l_boxA rfl rfl ?_
  intro b1
  refine vl_v (q_assign rfl) rfl ?_
  refine vl_nil ?_
  refine (th_n ?_)
  refine VC_seq ?_
  refine VC_seq ?_
  refine VC_region ?_
  refine vl_v (q_assign rfl) rfl ?_
  refine vl_nil ?_
  refine (th_n ?_)
  refine VC_block ?_
  refine VC_loop (ι := Nat) (fun k => k ≤ 16 ∧ ∀ j, 16 - k ≤ j → j < 16 → n.getD j 0 = pDn j) (fun k => [(1, vP b1 0), (3, vI (15 - (k : Int)))]) (fun k => [.blk b1 65 (n64s n)]) (fun k => 16 - k) 0 (⟨by omega, fun j h1 h2 => by omega⟩) (Sub.cons (s := 1) rfl (Sub.cons (s := 3) rfl (Sub.nil _))) (fun w H => H) ?_
  rintro k hp
  obtain ⟨hp1, hp2⟩ := hp
  refine VC_seq ?_
  refine VC_seq ?_
  refine VC_region ?_
  refine vl_v (q_move rfl) rfl ?_
  refine vl_v (q_geq_k (q := 0) Try.underlying3 rfl rfl) rfl ?_
  refine vl_nil ?_
  refine (th_n ?_)
  refine VC_cond rfl (fun ht5 => ?_) (fun ht5 => ?_)
  · skip
    have ht5 := of_decide_eq_true ht5
    have hk15 : k ≤ 15 := by omega
    refine VC_skip ?_
    refine (th_n ?_)
    refine VC_seq ?_
    refine VC_block ?_
    refine VC_seq ?_
    refine VC_drawV 5 [[], [0], [1], [], [3], [2, 4]] [[], [0], [0, 1], [], [3], [0, 1, 2, 3, 4]] rfl (by kernel_rfl) ?_
    refine qv_v (q_as (v := vN (15 - k)) (q_move rfl) (by rw [show (15 - (k : Int)) = ((15 - k : Nat) : Int) by omega])) ?_
    refine qv_v (q_idxA Try.underlying65 sz62 rfl rfl (by omega) (r := _) (by rw [Nat.mul_one, Nat.zero_add])) ?_
    refine qv_v (q_load 0 Try.underlying62 rfl rfl rfl (n64s_at (by omega))) ?_
    refine qv_v (q_as (v := vN (15 - k)) (q_move rfl) (by rw [show (15 - (k : Int)) = ((15 - k : Nat) : Int) by omega])) ?_
    refine qv_v (q_callV Try.func58 rfl rfl rfl (fun w1 H1 => prime_calls (15 - k) w1)) ?_
    refine qv_end ?_
    refine VL.keep (Sub.cons (s := 1) rfl (Sub.cons (s := 3) rfl (Sub.cons (s := 5) rfl (Sub.cons (s := 10) rfl (Sub.cons (s := 12) rfl (Sub.nil _)))))) ?_
    refine vl_v (q_as (v := .bool (decide (¬ n.getD (15 - k) 0 = pDn (15 - k)))) (q_neq_n Try.underlying62 rfl rfl) (by simp)) rfl ?_
    refine vl_nil ?_
    refine (qn_n (th_n ?_))
    refine VC_cond rfl (fun ht13 => ?_) (fun ht13 => ?_)
    · skip
      have ht13 := of_decide_eq_true ht13
      refine VC_seq ?_
      refine VC_drawV 5 [[], [0], [1], [], [3], [2, 4], [5, 4, 0, 1, 2, 3]] [[], [0], [0, 1], [], [3], [0, 1, 2, 3, 4], [0, 1, 2, 3, 4, 5]] rfl (by kernel_rfl) ?_
      refine qv_v (q_as (v := vN (15 - k)) (q_move rfl) (by rw [show (15 - (k : Int)) = ((15 - k : Nat) : Int) by omega])) ?_
      refine qv_v (q_idxA Try.underlying65 sz62 rfl rfl (by omega) (r := _) (by rw [Nat.mul_one, Nat.zero_add])) ?_
      refine qv_v (q_load 0 Try.underlying62 rfl rfl rfl (n64s_at (by omega))) ?_
      refine qv_v (q_as (v := vN (15 - k)) (q_move rfl) (by rw [show (15 - (k : Int)) = ((15 - k : Nat) : Int) by omega])) ?_
      refine qv_v (q_callV Try.func58 rfl rfl rfl (fun w1 H1 => prime_calls (15 - k) w1)) ?_
      refine qv_end ?_
      refine VL.keep (Sub.cons (s := 1) rfl (Sub.cons (s := 3) rfl (Sub.cons (s := 5) rfl (Sub.cons (s := 13) rfl (Sub.cons (s := 16) rfl (Sub.cons (s := 18) rfl (Sub.nil _))))))) ?_
      refine vl_v (q_as (v := .bool (leB n)) (q_gtr_n Try.underlying62 rfl rfl) (by rw [leB_top hn (15 - k) (by omega) (fun j h1 h2 => hp2 j (by omega) h2) ht13])) rfl ?_
      refine vl_v (q_assign rfl) rfl ?_
      refine vl_nil ?_
      refine (qn_n (th_n ?_))
      refine VC_ret ?_
      refine (bl_r (th_r (th_r (bl_r (th_r ?_)))))
      refine ⟨_, res1 rfl rfl, ?_⟩
      exact rfl
    · skip
      have ht13 := Decidable.not_not.1 (of_decide_eq_false ht13)
      refine VC_skip ?_
      refine (bl_n (th_n ?_))
      refine VC_region ?_
      refine vl_v (q_move rfl) rfl ?_
      refine vl_v (q_sub_i rfl rfl (by omega) (by omega)) rfl ?_
      refine vl_v (q_assign rfl) rfl ?_
      refine vl_nil ?_
      refine (th_n ?_)
      refine ⟨k + 1, ⟨by omega, fun j h1 h2 => by by_cases hj : j = 15 - k; (· rw [hj]; exact ht13); (· exact hp2 j (by omega) h2)⟩, by omega, (Sub.cons (s := 1) rfl (Sub.cons (s := 3) (congrArg (fun x : Int => some (vI x)) (show (15 - (k : Int) - 1 : Int) = 15 - ((k + 1 : Nat) : Int) by omega)) (Sub.nil _))), fun w H => H⟩
  · skip
    have ht5 := of_decide_eq_false ht5
    refine VC_exit ?_
    refine (th_x (th_x (bl_xs (th_n ?_))))
    refine VC_seq ?_
    refine VC_region ?_
    refine vl_v (q_as (v := .bool (leB n)) (q_assign rfl) (congrArg Value.bool (leB_all hn (fun j h => hp2 j (by omega) h)))) rfl ?_
    refine vl_nil ?_
    refine (th_n ?_)
    refine VC_ret ?_
    refine ⟨_, res1 rfl rfl, ?_⟩
    exact rfl
set_option maxHeartbeats 4000000 in
theorem rkey_calls (n : List Nat) (hn : n.length = 16) (hM : ∀ j, j < 16 → n.getD j 0 ≤ 1152921504606846976) (w : World) :
    Calls Try.prog 39 #[.agg (n64s n).toArray] w fun e w' => e = .returned (.agg (bys (keyV (valI (cz n)))).toArray) ∧ Kept [] w w' := by
  obtain ⟨hcd, hcv⟩ := carried_dig hn hM
  have hkl := keyV_length (valI (cz n))
  have hr4 := hcd.1
  refine enter (n := 53) (R := fun e L => e = .returned (.agg (bys (keyV (valI (cz n)))).toArray)) [.agg (n64s n).toArray] Try.func39 rfl rfl rfl (St.refl w) ?_ (fun e w' L' h H => ⟨h, H.kept⟩)
  refine VC_seq ?_
  refine VC_region ?_
  refine l_boxA rfl rfl ?_
  intro b1
  refine l_allocA zr23 rfl ?_
  intro b2
  refine vl_nil ?_
  refine (th_n ?_)
  refine VC_seq ?_
  refine VC_region ?_
  refine vl_v (q_loads 1 Try.underlying65 rfl rfl rfl sz65 (by simp only [zb, zu, zw, zi, n64s_length, za]; omega)) rfl ?_
  refine vl_v (q_callV Try.func56 rfl rfl rfl (fun w1 H1 => carried_calls n hn hM w1)) rfl ?_
  refine l_storeA 1 rfl rfl rfl sz65 (by simp only [zb, zu, zw, zi, n64s_length, za]; omega) (by with_reducible first | exact bys_one _ | exact u32s_one _ | exact u64s_one _ | exact i64s_one _ | exact n64s_one _ | assumption) (by simp only [zb, zu, zw, zi, n64s_length, za]; omega) ?_
  simp only [List.set_cons_zero, List.set_cons_succ]
  refine vl_nil ?_
  refine (th_n ?_)
  refine VC_seq ?_
  refine VC_block ?_
  refine VC_loop (ι := Nat) (fun j => digN (rlN (rN n 4) j) ∧ valI (cz (rlN (rN n 4) j)) % pZ = valI (cz n) % pZ) (fun j => [(1, vP b1 0), (2, vP b2 0)]) (fun j => [.blk b1 65 (n64s (rlN (rN n 4) j)), .blk b2 23 (bys (List.replicate 32 0))]) (fun j => (valI (cz (rlN (rN n 4) j))).toNat) 0 (⟨hcd, hcv⟩) (Sub.cons (s := 1) rfl (Sub.cons (s := 2) rfl (Sub.nil _))) (fun w H => St.pick H (ks := [1, 0]) (by decide) rfl) ?_
  rintro j hp
  obtain ⟨hp1, hp2⟩ := hp
  have hp1 : digN (rlN (rN n 4) j) := hp1
  have hp2 : valI (cz (rlN (rN n 4) j)) % pZ = valI (cz n) % pZ := hp2
  have hjl := hp1.1
  have hjb := hp1.dig.bound
  refine VC_seq ?_
  refine VC_seq ?_
  refine VC_region ?_
  refine vl_v (q_loads 0 Try.underlying65 rfl rfl rfl sz65 (by simp only [zb, zu, zw, zi, n64s_length, za]; omega)) rfl ?_
  refine vl_v (q_callV Try.func57 rfl rfl rfl (fun w1 H1 => least_calls (rlN (rN n 4) j) hp1 w1)) rfl ?_
  refine vl_nil ?_
  refine (th_n ?_)
  refine VC_cond rfl (fun ht11 => ?_) (fun ht11 => ?_)
  · skip
    have ht11 : pZ ≤ valI (cz (rlN (rN n 4) j)) := of_decide_eq_true ht11
    refine VC_skip ?_
    refine (th_n ?_)
    refine VC_block ?_
    refine VC_seq ?_
    refine VC_region ?_
    refine vl_v (q_assign rfl) rfl ?_
    refine vl_nil ?_
    refine (th_n ?_)
    refine VC_seq ?_
    refine VC_region ?_
    refine vl_v (q_assign rfl) rfl ?_
    refine vl_nil ?_
    refine (th_n ?_)
    refine VC_block ?_
    refine VC_loop (ι := Nat) (fun i => i ≤ 16) (fun i => [(1, vP b1 0), (2, vP b2 0), (3, vW (rlSt (rlN (rN n 4) j) i).2), (4, vN i)]) (fun i => [.blk b1 65 (n64s (rlSt (rlN (rN n 4) j) i).1), .blk b2 23 (bys (List.replicate 32 0))]) (fun i => 16 - i) 0 (by omega) (Sub.cons (s := 1) rfl (Sub.cons (s := 2) rfl (Sub.cons (s := 3) rfl (Sub.cons (s := 4) rfl (Sub.nil _))))) (fun w H => H) ?_
    rintro i hp
    have hil := (rlSt_length (rlN (rN n 4) j) i).trans hjl
    refine VC_seq ?_
    refine VC_seq ?_
    refine VC_region ?_
    refine vl_v (q_move rfl) rfl ?_
    refine vl_v (q_lss_n (q := 16) Try.underlying3 rfl rfl) rfl ?_
    refine vl_nil ?_
    refine (th_n ?_)
    refine VC_cond rfl (fun ht13 => ?_) (fun ht13 => ?_)
    · skip
      have ht13 := of_decide_eq_true ht13
      refine VC_skip ?_
      refine (th_n ?_)
      refine VC_seq ?_
      refine VC_block ?_
      refine VC_seq ?_
      have ht13 : i < 16 := ht13
      obtain ⟨hb1, hb2⟩ := rl_bound hp1 i ht13
      have hb3 := hp1.2 i ht13
      have hb4 : pDn i ≤ 65535 := by unfold pDn; split <;> (try split) <;> omega
      refine VC_drawV 8 [[], [0], [1], [2], [], [4], [3, 5], [], [6, 7], [8, 5, 0, 1, 2, 3, 4, 6, 7]] [[], [0], [0, 1], [0, 1, 2], [], [4], [0, 1, 2, 3, 4, 5], [], [0, 1, 2, 3, 4, 5, 6, 7], [0, 1, 2, 3, 4, 5, 6, 7, 8]] rfl (by kernel_rfl) ?_
      refine qv_v (q_move rfl) ?_
      refine qv_v (q_idxA Try.underlying65 sz62 rfl rfl (by omega) (r := _) (by rw [Nat.mul_one, Nat.zero_add])) ?_
      refine qv_v (q_load 0 Try.underlying62 rfl rfl rfl (n64s_at (by omega))) ?_
      refine qv_v (q_add_w (q := 65536) rfl rfl (by omega)) ?_
      refine qv_v (q_move rfl) ?_
      refine qv_v (q_callV Try.func58 rfl rfl rfl (fun w1 H1 => prime_calls i w1)) ?_
      refine qv_v (q_sub_w rfl rfl (by omega) (by omega)) ?_
      refine qv_v (q_move rfl) ?_
      refine qv_end ?_
      refine VL.keep (Sub.cons (s := 1) rfl (Sub.cons (s := 2) rfl (Sub.cons (s := 3) rfl (Sub.cons (s := 4) rfl (Sub.cons (s := 13) rfl (Sub.cons (s := 22) rfl (Sub.cons (s := 23) rfl (Sub.nil _)))))))) ?_
      refine vl_v (q_sub_w rfl rfl (by omega) (by omega)) rfl ?_
      refine vl_v (q_assign rfl) rfl ?_
      refine vl_nil ?_
      refine (qn_n (th_n ?_))
      refine VC_seq ?_
      refine VC_region ?_
      refine vl_v (q_move rfl) rfl ?_
      refine vl_v (q_move rfl) rfl ?_
      refine vl_v (q_rem_n (q := 65536) rfl rfl (by omega)) rfl ?_
      refine vl_v (q_idxA Try.underlying65 sz62 rfl rfl (by omega) (r := _) (by rw [Nat.mul_one, Nat.zero_add])) rfl ?_
      refine l_stN 0 rfl rfl rfl sz62 (by omega) ?_
      simp only [List.set_cons_zero, List.set_cons_succ]
      refine vl_nil ?_
      refine (th_n ?_)
      refine VC_region ?_
      refine vl_v (q_move rfl) rfl ?_
      refine vl_v (q_quo_w (q := 65536) rfl rfl (by omega) (by omega)) rfl ?_
      refine vl_v (q_sub_w (p := 1) rfl rfl (by omega) (by omega)) rfl ?_
      refine vl_v (q_assign rfl) rfl ?_
      refine vl_nil ?_
      refine (bl_n (th_n ?_))
      refine VC_region ?_
      refine vl_v (q_move rfl) rfl ?_
      refine vl_v (q_add_n (q := 1) rfl rfl (by omega)) rfl ?_
      refine vl_v (q_assign rfl) rfl ?_
      refine vl_nil ?_
      refine (th_n ?_)
      refine ⟨i + 1, by omega, by omega, (Sub.cons (s := 1) rfl (Sub.cons (s := 2) rfl (Sub.cons (s := 3) rfl (Sub.cons (s := 4) rfl (Sub.nil _))))), fun w H => H⟩
    · skip
      have ht13 := of_decide_eq_false ht13
      obtain rfl : i = 16 := by omega
      refine VC_exit ?_
      refine (th_x (th_x (bl_xs (bl_n (th_n ?_)))))
      refine ⟨j + 1, ⟨rl_dig hp1, by show valI (cz (rlSt (rlN (rN n 4) j) 16).1) % pZ = _; rw [rl_val hp1 ht11, ← hp2]; simp only [pZ]; omega⟩, by show (valI (cz (rlSt (rlN (rN n 4) j) 16).1)).toNat < (valI (cz (rlN (rN n 4) j))).toNat; rw [rl_val hp1 ht11]; simp only [pZ] at *; omega, (Sub.cons (s := 1) rfl (Sub.cons (s := 2) rfl (Sub.nil _))), fun w H => H⟩
  · skip
    have ht11 : ¬ pZ ≤ valI (cz (rlN (rN n 4) j)) := of_decide_eq_false ht11
    obtain ⟨m, hm⟩ : ∃ m, m = rlN (rN n 4) j := ⟨_, rfl⟩
    rw [← hm] at hp1 hp2 hjl hjb ht11
    rw [← hm]
    refine VC_exit ?_
    refine (th_x (th_x (bl_xs (th_n ?_))))
    refine VC_seq ?_
    refine VC_region ?_
    refine l_allocA zr23 rfl ?_
    intro b6
    refine vl_nil ?_
    refine (th_n ?_)
    refine VC_seq ?_
    refine VC_seq ?_
    refine VC_region ?_
    refine vl_v (q_assign rfl) rfl ?_
    refine vl_nil ?_
    refine (th_n ?_)
    refine VC_block ?_
    refine VC_loop (ι := Nat) (fun i => i ≤ 16) (fun i => [(1, vP b1 0), (2, vP b2 0), (6, vP b6 0), (7, vN i)]) (fun i => [.blk b6 23 (bys (rkeySt m i)), .blk b1 65 (n64s m), .blk b2 23 (bys (List.replicate 32 0))]) (fun i => 16 - i) 0 (by omega) (Sub.cons (s := 1) rfl (Sub.cons (s := 2) rfl (Sub.cons (s := 6) rfl (Sub.cons (s := 7) rfl (Sub.nil _))))) (fun w H => H) ?_
    rintro i hp
    have hkl2 := rkeySt_length m i
    refine VC_seq ?_
    refine VC_seq ?_
    refine VC_region ?_
    refine vl_v (q_move rfl) rfl ?_
    refine vl_v (q_lss_n (q := 16) Try.underlying3 rfl rfl) rfl ?_
    refine vl_nil ?_
    refine (th_n ?_)
    refine VC_cond rfl (fun ht33 => ?_) (fun ht33 => ?_)
    · skip
      have ht33 := of_decide_eq_true ht33
      refine VC_skip ?_
      refine (th_n ?_)
      refine VC_seq ?_
      refine VC_block ?_
      refine VC_seq ?_
      have ht33 : i < 16 := ht33
      have hb3 := hp1.2 i ht33
      have hl3 : ((rkeySt m i).set (2 * i) (UInt8.ofNat (m.getD i 0))).length = 32 := by rw [List.length_set, hkl2]
      refine VC_region ?_
      refine vl_v (q_move rfl) rfl ?_
      refine vl_v (q_mul_n (p := 2) rfl rfl (by omega)) rfl ?_
      refine vl_v (q_move rfl) rfl ?_
      refine vl_v (q_idxA Try.underlying65 sz62 rfl rfl (by omega) (r := _) (by rw [Nat.mul_one, Nat.zero_add])) rfl ?_
      refine vl_v (q_load 1 Try.underlying62 rfl rfl rfl (n64s_at (by omega))) rfl ?_
      refine vl_v (q_conv_nu8 Try.underlying62 Try.underlying5 rfl) rfl ?_
      refine vl_v (q_idxA Try.underlying23 sz5 rfl rfl (by omega) (r := _) (by rw [Nat.mul_one, Nat.zero_add])) rfl ?_
      refine l_stB 0 rfl rfl rfl sz5 (by omega) ?_
      simp only [List.set_cons_zero, List.set_cons_succ]
      refine vl_nil ?_
      refine (th_n ?_)
      refine VC_region ?_
      refine vl_v (q_move rfl) rfl ?_
      refine vl_v (q_mul_n (p := 2) rfl rfl (by omega)) rfl ?_
      refine vl_v (q_add_n (q := 1) rfl rfl (by omega)) rfl ?_
      refine vl_v (q_move rfl) rfl ?_
      refine vl_v (q_idxA Try.underlying65 sz62 rfl rfl (by omega) (r := _) (by rw [Nat.mul_one, Nat.zero_add])) rfl ?_
      refine vl_v (q_load 1 Try.underlying62 rfl rfl rfl (n64s_at (by omega))) rfl ?_
      refine vl_v (q_quo_w (q := 256) rfl rfl (by omega) (by omega)) rfl ?_
      refine vl_v (q_conv_nu8 Try.underlying62 Try.underlying5 rfl) rfl ?_
      refine vl_v (q_idxA Try.underlying23 sz5 rfl rfl (by omega) (r := _) (by rw [Nat.mul_one, Nat.zero_add])) rfl ?_
      refine l_stB 0 rfl rfl rfl sz5 (by omega) ?_
      simp only [List.set_cons_zero, List.set_cons_succ]
      refine vl_nil ?_
      refine (bl_n (th_n ?_))
      refine VC_region ?_
      refine vl_v (q_move rfl) rfl ?_
      refine vl_v (q_add_n (q := 1) rfl rfl (by omega)) rfl ?_
      refine vl_v (q_assign rfl) rfl ?_
      refine vl_nil ?_
      refine (th_n ?_)
      refine ⟨i + 1, by omega, by omega, (Sub.cons (s := 1) rfl (Sub.cons (s := 2) rfl (Sub.cons (s := 6) rfl (Sub.cons (s := 7) rfl (Sub.nil _))))), fun w H => H⟩
    · skip
      have ht33 := of_decide_eq_false ht33
      obtain rfl : i = 16 := by omega
      rw [show rkeySt m 16 = keyV (valI (cz n)) by rw [rkeySt_eq, keySt_V hp1 (by omega)]; exact keyV_eq hp2]
      refine VC_exit ?_
      refine (th_x (th_x (bl_xs (th_n ?_))))
      refine VC_seq ?_
      refine VC_region ?_
      refine vl_v (q_loads 0 Try.underlying23 rfl rfl rfl sz23 (by simp only [zb, zu, zw, zi, n64s_length, za]; omega)) rfl ?_
      refine l_storeA 2 rfl rfl rfl sz23 (by simp only [zb, zu, zw, zi, n64s_length, za]; omega) (by with_reducible first | exact bys_one _ | exact u32s_one _ | exact u64s_one _ | exact i64s_one _ | exact n64s_one _ | assumption) (by simp only [zs, zr, zm, za, zb, zu, zw, zi, n64s_length, zt, zd, zc, zn, *] <;> first | done | omega) ?_
      simp only [List.set_cons_zero, List.set_cons_succ]
      refine vl_nil ?_
      refine (th_n ?_)
      refine VC_ret ?_
      refine ⟨_, resC1 2 rfl Try.underlying23 rfl rfl rfl sz23 (by simp only [zb, zu, zw, zi, n64s_length, za]; omega), ?_⟩
      exact rfl
theorem rkeyD_calls (n : List Nat) (hn : digN n) (w : World) :
    Calls Try.prog 39 #[.agg (n64s n).toArray] w fun e w' => e = .returned (.agg (bys (keyV (valI (cz n)))).toArray) ∧ Kept [] w w' :=
  rkey_calls n hn.1 (fun j hj => by have := hn.2 j hj; omega) w
theorem rinvSt_no (e : List Nat) (k : Nat) (h : ¬ (254 - k = 2 ∨ 254 - k = 4)) : rmulL (rmulL (rinvSt e k) (rinvSt e k)) e = rinvSt e (k + 1) := by
  conv => rhs; unfold rinvSt
  exact (if_neg h).symm
theorem rinvSt_yes (e : List Nat) (k : Nat) (h : 254 - k = 2 ∨ 254 - k = 4) : rmulL (rinvSt e k) (rinvSt e k) = rinvSt e (k + 1) := by
  conv => rhs; unfold rinvSt
  exact (if_pos h).symm
set_option maxHeartbeats 2000000 in
theorem rinv_calls (a : List Nat) (ha : digN a) (w : World) :
    Calls Try.prog 40 #[.agg (n64s a).toArray] w fun e' w' => e' = .returned (.agg (n64s (rinvL a)).toArray) ∧ Kept [] w w' := by
  have hal := ha.1
  have hil := (rinvL_dig ha).1
  refine enter (n := 23) (R := fun e' L => e' = .returned (.agg (n64s (rinvL a)).toArray)) [.agg (n64s a).toArray] Try.func40 rfl rfl rfl (St.refl w) ?_ (fun e w' L' h H => ⟨h, H.kept⟩)
  refine VC_seq ?_
  refine VC_region ?_
  refine l_boxA rfl rfl ?_
  intro b1
  refine l_allocA zr65 rfl ?_
  intro b2
  simp only [u64s_rep]
  refine vl_nil ?_
  refine (th_n ?_)
  refine VC_seq ?_
  refine VC_region ?_
  refine vl_v (q_build (c' := n64s (1 :: List.replicate 15 0)) rfl (by kernel_rfl)) rfl ?_
  refine l_allocA zr65 rfl ?_
  intro b3
  simp only [u64s_rep]
  refine l_storeA 0 rfl rfl rfl sz65 (by simp only [zs, zr, zm, za, zb, zu, zw, zi, n64s_length, zt, zd, zc, zn, *] <;> first | done | omega) (by with_reducible first | exact bys_one _ | exact u32s_one _ | exact u64s_one _ | exact i64s_one _ | exact n64s_one _ | assumption) (by simp only [zs, zr, zm, za, zb, zu, zw, zi, n64s_length, zt, zd, zc, zn, *] <;> first | done | omega) ?_
  simp only [List.set_cons_zero, List.set_cons_succ]
  refine vl_nil ?_
  refine (th_n ?_)
  refine VC_seq ?_
  refine VC_seq ?_
  refine VC_region ?_
  refine vl_v (q_assign rfl) rfl ?_
  refine vl_nil ?_
  refine (th_n ?_)
  refine VC_block ?_
  refine VC_loop (ι := Nat) (fun k => k ≤ 255) (fun k => [(1, vP b1 0), (2, vP b2 0), (3, vP b3 0), (4, vI (254 - (k : Int)))]) (fun k => [.blk b3 65 (n64s (rinvSt a k)), .blk b2 65 (n64s (List.replicate 16 0)), .blk b1 65 (n64s a)]) (fun k => 255 - k) 0 (by omega) (Sub.cons (s := 1) rfl (Sub.cons (s := 2) rfl (Sub.cons (s := 3) rfl (Sub.cons (s := 4) rfl (Sub.nil _))))) (fun w H => H) ?_
  rintro k hp
  have hok := rinvSt_dig ha k
  have hkl := hok.1
  have hk2 := rmulL_dig hok hok
  have hk2l := hk2.1
  have hk3l := (rmulL_dig hk2 ha).1
  refine VC_seq ?_
  refine VC_seq ?_
  refine VC_region ?_
  refine vl_v (q_move rfl) rfl ?_
  refine vl_v (q_geq_k (q := 0) Try.underlying3 rfl rfl) rfl ?_
  refine vl_nil ?_
  refine (th_n ?_)
  refine VC_cond rfl (fun ht7 => ?_) (fun ht7 => ?_)
  · skip
    have ht7 := of_decide_eq_true ht7
    refine VC_skip ?_
    refine (th_n ?_)
    refine VC_seq ?_
    refine VC_block ?_
    refine VC_seq ?_
    refine VC_region ?_
    refine vl_v (q_loads 0 Try.underlying65 rfl rfl rfl sz65 (by simp only [zb, zu, zw, zi, n64s_length, za]; omega)) rfl ?_
    refine vl_v (q_loads 0 Try.underlying65 rfl rfl rfl sz65 (by simp only [zb, zu, zw, zi, n64s_length, za]; omega)) rfl ?_
    refine vl_v (q_callV Try.func38 rfl rfl rfl (fun w1 H1 => rmul_calls (rinvSt a k) (rinvSt a k) hok hok w1)) rfl ?_
    refine l_storeA 0 rfl rfl rfl sz65 (by simp only [zb, zu, zw, zi, n64s_length, za]; omega) (by with_reducible first | exact bys_one _ | exact u32s_one _ | exact u64s_one _ | exact i64s_one _ | exact n64s_one _ | assumption) (by simp only [zb, zu, zw, zi, n64s_length, za]; omega) ?_
    simp only [List.set_cons_zero, List.set_cons_succ]
    refine vl_nil ?_
    refine (th_n ?_)
    refine VC_seq ?_
    refine VC_region ?_
    refine vl_v (q_move rfl) rfl ?_
    refine vl_v (q_as (v := .bool (decide (¬ k = 252))) (q_neq_k (q := 2) Try.underlying3 rfl rfl) (by rw [show (!decide ((254 : Int) - (k : Int) = 2)) = decide (¬ k = 252) by rw [Bool.eq_iff_iff]; simp; omega])) rfl ?_
    by_cases hs14 : ¬ k = 252
    · skip
      rw [show decide (¬ k = 252) = true from decide_eq_true hs14]
      refine vl_v (q_move rfl) rfl ?_
      refine vl_vg rfl (q_move rfl) rfl ?_
      refine vl_vg rfl (q_as (v := .bool (decide (¬ k = 250))) (q_neq_k (q := 4) Try.underlying3 rfl rfl) (by rw [show (!decide ((254 : Int) - (k : Int) = 4)) = decide (¬ k = 250) by rw [Bool.eq_iff_iff]; simp; omega])) rfl ?_
      by_cases hs17 : ¬ k = 250
      · skip
        rw [show decide (¬ k = 250) = true from decide_eq_true hs17]
        refine vl_v (q_pickT rfl rfl) rfl ?_
        refine vl_nil ?_
        refine (th_n ?_)
        refine VC_yes (rfl) ?_
        refine VC_region ?_
        refine vl_v (q_loads 0 Try.underlying65 rfl rfl rfl sz65 (by simp only [zb, zu, zw, zi, n64s_length, za]; omega)) rfl ?_
        refine vl_v (q_loads 2 Try.underlying65 rfl rfl rfl sz65 (by simp only [zb, zu, zw, zi, n64s_length, za]; omega)) rfl ?_
        refine vl_v (q_callV Try.func38 rfl rfl rfl (fun w1 H1 => rmul_calls (rmulL (rinvSt a k) (rinvSt a k)) a hk2 ha w1)) rfl ?_
        refine l_storeA 0 rfl rfl rfl sz65 (by simp only [zb, zu, zw, zi, n64s_length, za]; omega) (by with_reducible first | exact bys_one _ | exact u32s_one _ | exact u64s_one _ | exact i64s_one _ | exact n64s_one _ | assumption) (by simp only [zb, zu, zw, zi, n64s_length, za]; omega) ?_
        simp only [List.set_cons_zero, List.set_cons_succ]
        refine vl_nil ?_
        refine (bl_n (th_n ?_))
        refine VC_region ?_
        refine vl_v (q_move rfl) rfl ?_
        refine vl_v (q_sub_i rfl rfl (by omega) (by omega)) rfl ?_
        refine vl_v (q_assign rfl) rfl ?_
        refine vl_nil ?_
        refine (th_n ?_)
        first | rw [rinvSt_no a k (by omega)] | rw [rinvSt_yes a k (by omega)]
        refine ⟨k + 1, by omega, by omega, (Sub.cons (s := 1) rfl (Sub.cons (s := 2) rfl (Sub.cons (s := 3) rfl (Sub.cons (s := 4) (congrArg (fun x : Int => some (vI x)) (show (254 - (k : Int) - 1 : Int) = 254 - ((k + 1 : Nat) : Int) by omega)) (Sub.nil _))))), fun w H => H⟩
      · skip
        rw [show decide (¬ k = 250) = false from decide_eq_false hs17]
        refine vl_v (q_pickT rfl rfl) rfl ?_
        refine vl_nil ?_
        refine (th_n ?_)
        refine VC_no (rfl) ?_
        refine VC_skip ?_
        refine (bl_n (th_n ?_))
        refine VC_region ?_
        refine vl_v (q_move rfl) rfl ?_
        refine vl_v (q_sub_i rfl rfl (by omega) (by omega)) rfl ?_
        refine vl_v (q_assign rfl) rfl ?_
        refine vl_nil ?_
        refine (th_n ?_)
        first | rw [rinvSt_no a k (by omega)] | rw [rinvSt_yes a k (by omega)]
        refine ⟨k + 1, by omega, by omega, (Sub.cons (s := 1) rfl (Sub.cons (s := 2) rfl (Sub.cons (s := 3) rfl (Sub.cons (s := 4) (congrArg (fun x : Int => some (vI x)) (show (254 - (k : Int) - 1 : Int) = 254 - ((k + 1 : Nat) : Int) by omega)) (Sub.nil _))))), fun w H => H⟩
    · skip
      rw [show decide (¬ k = 252) = false from decide_eq_false hs14]
      refine vl_v (q_move rfl) rfl ?_
      refine vl_skip rfl rfl ?_
      refine vl_skip rfl rfl ?_
      refine vl_v (q_pickF rfl rfl) rfl ?_
      refine vl_nil ?_
      refine (th_n ?_)
      refine VC_no (rfl) ?_
      refine VC_skip ?_
      refine (bl_n (th_n ?_))
      refine VC_region ?_
      refine vl_v (q_move rfl) rfl ?_
      refine vl_v (q_sub_i rfl rfl (by omega) (by omega)) rfl ?_
      refine vl_v (q_assign rfl) rfl ?_
      refine vl_nil ?_
      refine (th_n ?_)
      first | rw [rinvSt_no a k (by omega)] | rw [rinvSt_yes a k (by omega)]
      refine ⟨k + 1, by omega, by omega, (Sub.cons (s := 1) rfl (Sub.cons (s := 2) rfl (Sub.cons (s := 3) rfl (Sub.cons (s := 4) (congrArg (fun x : Int => some (vI x)) (show (254 - (k : Int) - 1 : Int) = 254 - ((k + 1 : Nat) : Int) by omega)) (Sub.nil _))))), fun w H => H⟩
  · skip
    have ht7 := of_decide_eq_false ht7
    obtain rfl : k = 255 := by omega
    rw [show rinvSt a 255 = rinvL a from rfl]
    refine VC_exit ?_
    refine (th_x (th_x (bl_xs (th_n ?_))))
    refine VC_seq ?_
    refine VC_region ?_
    refine vl_v (q_loads 0 Try.underlying65 rfl rfl rfl sz65 (by simp only [zb, zu, zw, zi, n64s_length, za]; omega)) rfl ?_
    refine l_storeA 1 rfl rfl rfl sz65 (by simp only [zb, zu, zw, zi, n64s_length, za]; omega) (by with_reducible first | exact bys_one _ | exact u32s_one _ | exact u64s_one _ | exact i64s_one _ | exact n64s_one _ | assumption) (by simp only [zs, zr, zm, za, zb, zu, zw, zi, n64s_length, zt, zd, zc, zn, *] <;> first | done | omega) ?_
    simp only [List.set_cons_zero, List.set_cons_succ]
    refine vl_nil ?_
    refine (th_n ?_)
    refine VC_ret ?_
    refine ⟨_, resC1 1 rfl Try.underlying65 rfl rfl rfl sz65 (by simp only [zb, zu, zw, zi, n64s_length, za]; omega), ?_⟩
    exact rfl
end Go.Proofs.Ytabmfndiepmcgaa
end
section
namespace Go.PBYtabmfndiepmcgaa
open Go Go.RowKit Go.ChangeShapes Go.WideShapes Go.ChangeAt
set_option linter.unusedSimpArgs false
set_option linter.unusedVariables false
section
variable {H : Type} {enc : TypeId × Value → H} {P : Program} {w : World} {r : Reach} {b0 : Nat}
end
end Go.PBYtabmfndiepmcgaa
end
section
namespace Go.PBYtabmfndiepmcgaa
open Go Go.RowKit
set_option linter.unusedSimpArgs false
set_option linter.unusedVariables false
/-- the kinds of a type's cells, where all are whole numbers, one behind the other -/
def flatFields (P : Program) (f : TypeId → Option (List IntKind)) : List Field → Nat → Option (List IntKind)
  | [], _ => some []
  | x :: r, off =>
    match f x.type with
    | none => none
    | some ks => if x.offset = off ∧ P.cellsOf x.type = ks.length ∧ (x.name != "_") = true then (flatFields P f r (off + ks.length)).map (ks ++ ·) else none
def flatAt (P : Program) : Nat → TypeId → Option (List IntKind)
  | 0, _ => none
  | d + 1, t =>
    match P.underlying t with
    | some (.int q) => some [q]
    | some (.array n e) => match flatAt P d e with
      | none => none
      | some ks => if P.cellsOf e = ks.length ∧ P.cellsOf t = n * ks.length then some (List.replicate n ks).flatten else none
    | some (.struct fs) => match flatFields P (flatAt P d) fs.toList 0 with
      | none => none
      | some ks => if P.cellsOf t = ks.length then some ks else none
    | _ => none
/-- cells of these kinds -/
def Fits (cs : List Value) (ks : List IntKind) : Prop := cs.length = ks.length ∧ ∀ (i : Nat) q, ks[i]? = some q → ∃ n, cs[i]? = some (.int q n) ∧ (Lit.int q n).wf = true
theorem Fits.append {a b : List Value} {k l : List IntKind} (h : Fits a k) (g : Fits b l) : Fits (a ++ b) (k ++ l) := by
  refine ⟨by simp [h.1, g.1], fun i q hi => ?_⟩
  by_cases hik : i < k.length
  · rw [List.getElem?_append_left hik] at hi
    rw [List.getElem?_append_left (by rw [h.1]; exact hik)]
    exact h.2 i q hi
  · rw [List.getElem?_append_right (by omega)] at hi
    rw [List.getElem?_append_right (by rw [h.1]; omega), h.1]
    exact g.2 _ q hi
theorem Fits.part {cs : List Value} {p k r : List IntKind} (h : Fits cs (p ++ k ++ r)) : Fits ((cs.drop p.length).take k.length) k := by
  have h1 := h.1
  simp only [List.length_append] at h1
  refine ⟨by simp; omega, fun i q hi => ?_⟩
  have hik := (List.getElem?_eq_some_iff.1 hi).1
  rw [List.getElem?_take, if_pos hik, List.getElem?_drop]
  refine h.2 (p.length + i) q ?_
  rw [List.append_assoc, List.getElem?_append_right (by omega), List.getElem?_append_left (by omega)]
  rw [← hi]
  congr 1
  omega
theorem replicate_part (n : Nat) (k : List IntKind) (i : Nat) (hi : i < n) : (List.replicate n k).flatten = (List.replicate i k).flatten ++ k ++ (List.replicate (n - 1 - i) k).flatten := by
  obtain ⟨r, rfl⟩ : ∃ r, n = i + (1 + r) := ⟨n - 1 - i, by omega⟩
  rw [show i + (1 + r) - 1 - i = r by omega, ← List.replicate_append_replicate, ← List.replicate_append_replicate, List.flatten_append, List.flatten_append]
  simp
theorem flatten_rep_length (i : Nat) (k : List IntKind) : ((List.replicate i k).flatten).length = i * k.length := by simp
theorem mapM_some {α β : Type} (f : α → Option β) : ∀ (L : List α), (∀ x ∈ L, ∃ y, f x = some y) → ∃ ys, L.mapM f = some ys
  | [], _ => ⟨[], rfl⟩
  | x :: L, h => by
    obtain ⟨y, hy⟩ := h x (by simp)
    obtain ⟨ys, hys⟩ := mapM_some f L (fun z hz => h z (by simp [hz]))
    exact ⟨y :: ys, by simp [List.mapM_cons, hy, hys]⟩
theorem flatFields_at {P : Program} {f : TypeId → Option (List IntKind)} : ∀ (fs : List Field) (off : Nat) (ks : List IntKind), flatFields P f fs off = some ks → ∀ x ∈ fs, ∃ p k r, ks = p ++ k ++ r ∧ f x.type = some k ∧ x.offset = off + p.length ∧ P.cellsOf x.type = k.length ∧ (x.name != "_") = true
  | [], _, _, _, x, hx => by simp at hx
  | y :: fs, off, ks, h, x, hx => by
    simp only [flatFields] at h
    cases hf : f y.type with
    | none => rw [hf] at h; simp at h
    | some k0 =>
      rw [hf] at h
      simp only at h
      split at h
      · rename_i hc
        cases hr : flatFields P f fs (off + k0.length) with
        | none => rw [hr] at h; simp at h
        | some kr =>
          rw [hr] at h
          simp only [Option.map_some, Option.some.injEq] at h
          subst h
          rcases List.mem_cons.1 hx with rfl | hx
          · exact ⟨[], k0, kr, by simp, hf, by simpa using hc.1, hc.2.1, hc.2.2⟩
          · obtain ⟨p, k, r, e, h1, h2, h3⟩ := flatFields_at fs _ kr hr x hx
            subst e
            exact ⟨k0 ++ p, k, r, by simp, h1, by simp [h2]; omega, h3⟩
      · simp at h
theorem keyLits_flat {P : Program} : ∀ (d : Nat) (t : TypeId) (ks : List IntKind) (cs : List Value), flatAt P d t = some ks → Fits cs ks → ∃ ls, P.keyLits d t cs = some ls
  | 0, _, _, _, h, _ => by simp [flatAt] at h
  | d + 1, t, ks, cs, h, hf => by
    unfold flatAt at h
    unfold Program.keyLits
    cases hu : P.underlying t with
    | none => rw [hu] at h; simp at h
    | some desc =>
      rw [hu] at h
      cases desc with
      | int q =>
        simp only [Option.some.injEq] at h
        subst h
        obtain ⟨n, h1, h2⟩ := hf.2 0 q rfl
        have hl := hf.1
        obtain ⟨c, rfl⟩ : ∃ c, cs = [c] := by
          match cs, hl with
          | [c], _ => exact ⟨c, rfl⟩
        simp at h1
        subst h1
        exact ⟨[.int q n], by simp [h2]⟩
      | array n e =>
        simp only at h
        cases hk : flatAt P d e with
        | none => rw [hk] at h; simp at h
        | some k =>
          rw [hk] at h
          simp only at h
          split at h
          · rename_i hc
            simp only [Option.some.injEq] at h
            subst h
            have hlen : cs.length = P.cellsOf t := by rw [hf.1, flatten_rep_length, hc.2]
            simp only [hlen, if_true]
            obtain ⟨ys, hys⟩ := mapM_some (fun i => P.keyLits d e ((cs.drop (i * P.cellsOf e)).take (P.cellsOf e))) (List.range n) (fun i hi => by
              have hi' := List.mem_range.1 hi
              rw [replicate_part n k i hi'] at hf
              have := hf.part
              rw [flatten_rep_length] at this
              rw [hc.1]
              exact keyLits_flat d e k _ hk this)
            exact ⟨ys.flatten, by rw [hys]; rfl⟩
          · simp at h
      | struct fs =>
        simp only at h
        cases hk : flatFields P (flatAt P d) fs.toList 0 with
        | none => rw [hk] at h; simp at h
        | some k =>
          rw [hk] at h
          simp only at h
          split at h
          · rename_i hc
            simp only [Option.some.injEq] at h
            subst h
            have hlen : cs.length = P.cellsOf t := by rw [hf.1, hc]
            have hat := flatFields_at fs.toList 0 k hk
            have hnm : fs.all (fun x => x.name != "_") = true := by
              rw [← Array.all_toList, List.all_eq_true]
              intro x hx
              obtain ⟨p, k1, r, e, h1, h2, h3, h4⟩ := hat x hx
              exact h4
            obtain ⟨ys, hys⟩ := mapM_some (fun x : Field => P.keyLits d x.type ((cs.drop x.offset).take (P.cellsOf x.type))) fs.toList (fun x hx => by
              obtain ⟨p, k1, r, e, h1, h2, h3, h4⟩ := hat x hx
              subst e
              have := hf.part
              rw [h2, h3, Nat.zero_add]
              exact keyLits_flat d x.type k1 _ h1 this)
            refine ⟨ys.flatten, ?_⟩
            simp only [hlen, true_and]
            rw [if_pos hnm, hys]
            rfl
          · simp at h
      | _ => simp at h
/-- k is an array or a struct of whole numbers alone, of these kinds -/
structure Flat (P : Program) (k : TypeId) (ks : List IntKind) : Prop where
  law : WideMaps.KeyLaw P k
  calm : P.eqGuardType P.depth k = false
  key : ∀ cs, Fits cs ks → ∃ l, keyOf P k (.agg cs.toArray) = some l
  eq : ∀ (w : World) {x y : Value} {lx ly : Lit}, keyOf P k x = some lx → keyOf P k y = some ly → ∃ r : Bool, (Op.equal k x y).run P w = .ok r w ∧ (r = true ↔ lx = ly)
theorem flat_of {P : Program} {k : TypeId} {ks : List IntKind} {m : Nat} (hl : laidOutB P = true) (hm : m + 1 ≤ 10000) (hrow : k < P.types.size) (hk : P.keyTypeAt m k = true) (hkt : P.keyType k = true)
    (hwide : (match P.underlying k with | some (.array _ _) | some (.struct _) => true | _ => false) = true) (hf : flatAt P (P.types.size + 1) k = some ks) (hc : P.cellsOf k = ks.length) (hg : P.eqGuardType P.depth k = false) : Flat P k ks where
  calm := hg
  law := deep_law_laid hl hm hrow hk hwide
  key := fun cs h => by
    obtain ⟨ls, hls⟩ := keyLits_flat _ k ks cs hf h
    have hform : (Value.agg cs.toArray).formed P k = true := by
      unfold Value.formed
      cases hu : P.underlying k with
      | none => rw [hu] at hwide; simp at hwide
      | some d =>
        rw [hu] at hwide
        cases d <;> simp at hwide <;> simp [h.1, hc]
    unfold keyOf
    cases hu : P.underlying k with
    | none => rw [hu] at hwide; simp at hwide
    | some d =>
      rw [hu] at hwide
      cases d <;> simp at hwide <;> simp [hkt, hform, Value.cells, hls]
  eq := fun w {x y lx ly} hx hy => run_equal_deep w (by omega) hk hwide hx hy
theorem Flat.equal {P : Program} {k : TypeId} {ks : List IntKind} (F : Flat P k ks) (w : World) {xs ys : List Value} (hx : Fits xs ks) (hy : Fits ys ks) :
    ∃ r : Bool, (Op.equal k (.agg xs.toArray) (.agg ys.toArray)).run P w = .ok r w ∧ (r = true ↔ xs = ys) := by
  obtain ⟨lx, h1⟩ := F.key xs hx
  obtain ⟨ly, h2⟩ := F.key ys hy
  obtain ⟨r, hr, hi⟩ := F.eq w h1 h2
  refine ⟨r, hr, hi.trans ⟨?_, ?_⟩⟩
  · rintro rfl
    have := F.law.inj h1 h2
    simpa using this
  · rintro rfl
    rw [h1] at h2
    exact Option.some.inj h2
theorem run_eqlA {P : Program} {k : TypeId} {ks : List IntKind} (F : Flat P k ks) (w : World) {xs ys : List Value} (hx : Fits xs ks) (hy : Fits ys ks) (r : Bool) (hr : r = true ↔ xs = ys) :
    (binOp .eql k (.agg xs.toArray) (.agg ys.toArray)).run P w = .ok (.bool r) w := by
  obtain ⟨r', h1, h2⟩ := F.equal w hx hy
  have : r' = r := by rw [Bool.eq_iff_iff, h2, hr]
  subst this
  have h3 : (Op.equalIn 10000 k (.agg xs.toArray) (.agg ys.toArray)).run P w = .ok r' w := h1
  rw [run_eql_struct, h3]
  rfl
theorem run_neqA {P : Program} {k : TypeId} {ks : List IntKind} (F : Flat P k ks) (w : World) {xs ys : List Value} (hx : Fits xs ks) (hy : Fits ys ks) (r : Bool) (hr : r = true ↔ xs = ys) :
    (binOp .neq k (.agg xs.toArray) (.agg ys.toArray)).run P w = .ok (.bool (!r)) w := by
  obtain ⟨r', h1, h2⟩ := F.equal w hx hy
  have : r' = r := by rw [Bool.eq_iff_iff, h2, hr]
  subst this
  have h3 : (Op.equalIn 10000 k (.agg xs.toArray) (.agg ys.toArray)).run P w = .ok r' w := h1
  rw [run_neq_struct, h3]
  rfl
section
variable {P : Program} {w : World} {Q : Exit → Act → World → Prop} {a : Act} {dst : Option Tmp} {ty : TypeId} {pos : String} {af : Array Edge} {g : Option (Nat × Bool)}
theorem opw_eqA {K : Act → World → Prop} {t t2 : TypeId} {x y : Operand} {ks : List IntKind} {xs ys : List Value} {r : Bool} (F : Flat P t ks) (hx : a.eval x = .agg xs.toArray) (hy : a.eval y = .agg ys.toArray) (fx : Fits xs ks) (fy : Fits ys ks) (hr : r = true ↔ xs = ys)
    (h : K (a.put dst (.bool r)) w) : Oper.wp P { dst, op := .binOp .eql t x y t2, type := ty, pos, after := af, guard := g } a w K Q :=
  opw_val (v := .bool r) (w' := w) (by simp [execOp, hx, hy, run_eqGuard_agg _ _ _ _ _ _ _ F.calm, run_eqlA F w fx fy r hr, Result.andThen]) h
theorem opw_neA {K : Act → World → Prop} {t t2 : TypeId} {x y : Operand} {ks : List IntKind} {xs ys : List Value} {r : Bool} (F : Flat P t ks) (hx : a.eval x = .agg xs.toArray) (hy : a.eval y = .agg ys.toArray) (fx : Fits xs ks) (fy : Fits ys ks) (hr : r = true ↔ xs = ys)
    (h : K (a.put dst (.bool (!r))) w) : Oper.wp P { dst, op := .binOp .neq t x y t2, type := ty, pos, after := af, guard := g } a w K Q :=
  opw_val (v := .bool (!r)) (w' := w) (by simp [execOp, hx, hy, run_eqGuard_agg _ _ _ _ _ _ _ F.calm, run_neqA F w fx fy r hr, Result.andThen]) h
end
/-- bytes fit -/
theorem fits_bys (l : List UInt8) : Fits (bys l) (List.replicate l.length .u8) := by
  refine ⟨by simp [bys], fun i q hi => ?_⟩
  have hil := (List.getElem?_eq_some_iff.1 hi).1
  rw [List.length_replicate] at hil
  have : q = .u8 := by
    rw [List.getElem?_replicate, if_pos hil] at hi
    exact (Option.some.inj hi).symm
  subst this
  refine ⟨(l[i].toNat : Int), by rw [bys_get, List.getElem?_eq_getElem hil]; rfl, ?_⟩
  have := l[i].toNat_lt
  exact WalkArith.wf_u8 (by omega)
theorem fits_int {k : IntKind} {n : Int} (h : (Lit.int k n).wf = true) : Fits [.int k n] [k] :=
  ⟨rfl, fun i q hi => by
    cases i with
    | zero => simp at hi; subst hi; exact ⟨n, rfl, h⟩
    | succ i => simp at hi⟩
end Go.PBYtabmfndiepmcgaa
end
section
namespace Go.PBYtabmfndiepmcgaa
open Go Go.RowKit Go.ChangeShapes Go.WideShapes Go.ChangeAt
set_option linter.unusedSimpArgs false
set_option linter.unusedVariables false
theorem Fits.parts {cs : List Value} {ks : List IntKind} (n : Nat) (h : Fits cs ks) : Fits (cs.take n) (ks.take n) ∧ Fits (cs.drop n) (ks.drop n) := by
  refine ⟨⟨by simp [h.1], fun i q hi => ?_⟩, ⟨by simp [h.1], fun i q hi => ?_⟩⟩
  · rw [List.getElem?_take] at hi ⊢
    split at hi
    · rename_i hl; rw [if_pos hl]; exact h.2 i q hi
    · cases hi
  · rw [List.getElem?_drop] at hi ⊢
    exact h.2 _ q hi
theorem Fits.split {cs : List Value} {k l : List IntKind} (h : Fits cs (k ++ l)) : ∃ a b, cs = a ++ b ∧ Fits a k ∧ Fits b l := by
  have h1 := h.parts k.length
  rw [List.take_left, List.drop_left] at h1
  exact ⟨_, _, (List.take_append_drop k.length cs).symm, h1.1, h1.2⟩
theorem Fits.bytes : ∀ {n : Nat} {cs : List Value}, Fits cs (List.replicate n .u8) → ∃ l : List UInt8, l.length = n ∧ cs = bys l
  | 0, cs, h => ⟨[], rfl, List.eq_nil_of_length_eq_zero (by simpa using h.1)⟩
  | n + 1, cs, h => by
    rw [List.replicate_succ] at h
    cases cs with
    | nil => have := h.1; simp at this
    | cons v cs =>
      have h0 := h.2 0 .u8 rfl
      obtain ⟨x, hx, hw⟩ := h0
      simp only [List.getElem?_cons_zero, Option.some.injEq] at hx
      subst hx
      have h1 := (h.parts 1).2
      obtain ⟨l, hl, rfl⟩ := Fits.bytes (n := n) (cs := cs) (by simpa using h1)
      refine ⟨UInt8.ofNat x.toNat :: l, by simp [hl], ?_⟩
      simp only [bys, List.map_cons]
      congr 2
      simp only [Lit.wf, Bool.and_eq_true, decide_eq_true_eq] at hw
      have h2 : IntKind.u8.min = 0 := rfl
      have h3 : IntKind.u8.max = 255 := rfl
      rw [h2, h3] at hw
      rw [UInt8.toNat_ofNat_of_lt' (by show x.toNat < 256; omega)]
      omega
theorem Fits.one {k : IntKind} {cs : List Value} (h : Fits cs [k]) : ∃ x, cs = [.int k x] ∧ (Lit.int k x).wf = true := by
  obtain ⟨x, hx, hw⟩ := h.2 0 k rfl
  have hl : cs.length = 1 := h.1
  cases cs with
  | nil => simp at hl
  | cons v r =>
    simp only [List.getElem?_cons_zero, Option.some.injEq] at hx
    subst hx
    cases r with
    | nil => exact ⟨x, rfl, hw⟩
    | cons u r => simp at hl
theorem wf_u8 {x : Int} (h : (Lit.int .u8 x).wf = true) : ∃ y : UInt8, Value.int .u8 x = vU8 y := by
  simp only [Lit.wf, Bool.and_eq_true, decide_eq_true_eq] at h
  have h2 : IntKind.u8.min = 0 := rfl
  have h3 : IntKind.u8.max = 255 := rfl
  rw [h2, h3] at h
  refine ⟨UInt8.ofNat x.toNat, ?_⟩
  congr 1
  rw [UInt8.toNat_ofNat_of_lt' (by show x.toNat < 256; omega)]
  omega
section
variable {P : Program} {n : Nat} {S : List Nat} {w0 : World} {env : Env} {L : List Res}
variable {d : Tmp} {ty : TypeId} {pos : String} {af : Array Edge} {g : Option (Nat × Bool)}
/-- arrays or structs of whole numbers that are the same -/
theorem q_eqR {T T' : TypeId} {x y : Operand} {ks : List IntKind} {c c' : List Value} {r : Bool} (hF : Flat P T ks) (hx : evalE env x = some (.agg c.toArray)) (hy : evalE env y = some (.agg c'.toArray)) (f1 : Fits c ks) (f2 : Fits c' ks) (hr : r = true ↔ c = c') :
    QT P n S w0 { dst := some d, op := .binOp .eql T x y T', type := ty, pos, after := af, guard := g } env L (.val (.bool r)) :=
  ⟨fun a w hm H => opw_eqA hF (hm.eval hx) (hm.eval hy) f1 f2 hr ⟨_, rfl, fun h => by simp at h, rfl, St.refl w⟩⟩
theorem q_neR {T T' : TypeId} {x y : Operand} {ks : List IntKind} {c c' : List Value} {r : Bool} (hF : Flat P T ks) (hx : evalE env x = some (.agg c.toArray)) (hy : evalE env y = some (.agg c'.toArray)) (f1 : Fits c ks) (f2 : Fits c' ks) (hr : r = true ↔ c = c') :
    QT P n S w0 { dst := some d, op := .binOp .neq T x y T', type := ty, pos, after := af, guard := g } env L (.val (.bool !r)) :=
  ⟨fun a w hm H => opw_neA hF (hm.eval hx) (hm.eval hy) f1 f2 hr ⟨_, rfl, fun h => by simp at h, rfl, St.refl w⟩⟩
theorem q_eqT {T T' : TypeId} {x y : Operand} {ks : List IntKind} {c c' : List Value} (hF : Flat P T ks) (hx : evalE env x = some (.agg c.toArray)) (hy : evalE env y = some (.agg c'.toArray)) (f1 : Fits c ks) (h : c = c') :
    QT P n S w0 { dst := some d, op := .binOp .eql T x y T', type := ty, pos, after := af, guard := g } env L (.val (.bool true)) :=
  q_eqR hF hx hy f1 (h ▸ f1) ⟨fun _ => h, fun _ => rfl⟩
theorem bys_inj' : ∀ {a b : List UInt8}, bys a = bys b → a = b
  | [], [], _ => rfl
  | [], _ :: _, h => by simp [bys] at h
  | _ :: _, [], h => by simp [bys] at h
  | x :: a, y :: b, h => by
    simp only [bys, List.map_cons, List.cons.injEq, Value.int.injEq, true_and] at h
    have h1 : x = y := UInt8.toNat_inj.1 (by omega)
    rw [h1, bys_inj' (show bys a = bys b from h.2)]
theorem q_eqB {T T' : TypeId} {x y : Operand} {ks : List IntKind} {l m : List UInt8} (hF : Flat P T ks) (hx : evalE env x = some (.agg (bys l).toArray)) (hy : evalE env y = some (.agg (bys m).toArray)) (f1 : Fits (bys l) ks) (f2 : Fits (bys m) ks) :
    QT P n S w0 { dst := some d, op := .binOp .eql T x y T', type := ty, pos, after := af, guard := g } env L (.val (.bool (decide (l = m)))) :=
  q_eqR hF hx hy f1 f2 (by rw [decide_eq_true_iff]; exact ⟨fun h => by rw [h], bys_inj'⟩)
theorem q_neB {T T' : TypeId} {x y : Operand} {ks : List IntKind} {l m : List UInt8} (hF : Flat P T ks) (hx : evalE env x = some (.agg (bys l).toArray)) (hy : evalE env y = some (.agg (bys m).toArray)) (f1 : Fits (bys l) ks) (f2 : Fits (bys m) ks) :
    QT P n S w0 { dst := some d, op := .binOp .neq T x y T', type := ty, pos, after := af, guard := g } env L (.val (.bool (!decide (l = m)))) :=
  q_neR hF hx hy f1 f2 (by rw [decide_eq_true_iff]; exact ⟨fun h => by rw [h], bys_inj'⟩)
theorem fits_bys' {l : List UInt8} {n : Nat} (h : l.length = n) : Fits (bys l) (List.replicate n .u8) := h ▸ fits_bys l
end
section
variable {H : Type} {enc : TypeId × Value → H} {P : Program} {w : World} {r : Reach} {b0 base : Nat} {spare : Nat → Bool} {held : Bool}
theorem trod_int1 {t : TypeId} {k : IntKind} {cs : List Value} {fuel : Nat} {x : DataW H × List MemPlace} (hu : P.underlying t = some (.int k)) (h : DataW.trod enc P w base spare held fuel t cs = some x) : Fits cs [k] := by
  obtain ⟨n, rfl, _, hw⟩ := DataW.trod_int hu h
  exact fits_int hw
theorem fits_mapM {f : Nat → Option (DataW H × List MemPlace)} {cs : List Value} {ks : List IntKind} (n : Nat) (m : Nat) (hm : ks.length = m) (hl : cs.length = n * m) (hf : ∀ i, i < n → ∀ y, f i = some y → Fits ((cs.drop (i * m)).take m) ks) {x : List (DataW H × List MemPlace)} (h : (List.range n).mapM f = some x) : Fits cs (List.replicate n ks).flatten := by
  have hall : ∀ i, i < n → ∃ y, f i = some y := by
    intro i hi
    have key : ∀ (l : List Nat) (x : List (DataW H × List MemPlace)), l.mapM f = some x → ∀ i ∈ l, ∃ y, f i = some y := by
      intro l
      induction l with
      | nil => intro x _ i hi; cases hi
      | cons a l ih =>
        intro x h i hi
        rw [List.mapM_cons] at h
        cases ha : f a with
        | none => rw [ha] at h; simp at h
        | some y =>
          rw [ha] at h
          simp only [Option.pure_def, Option.bind_eq_bind, Option.bind_some] at h
          cases hr : l.mapM f with
          | none => rw [hr] at h; simp at h
          | some z =>
            rcases List.mem_cons.1 hi with rfl | hi
            · exact ⟨y, ha⟩
            · exact ih z hr i hi
    exact key _ _ h i (List.mem_range.2 hi)
  have key : ∀ (n : Nat) (cs : List Value), cs.length = n * m → (∀ i, i < n → Fits ((cs.drop (i * m)).take m) ks) → Fits cs (List.replicate n ks).flatten := by
    intro n
    induction n with
    | zero => intro cs hl _; simp at hl; subst hl; exact ⟨rfl, fun i q hi => by simp at hi⟩
    | succ n ih =>
      intro cs hl hf
      have h0 := hf 0 (by omega)
      rw [Nat.zero_mul, List.drop_zero] at h0
      have hr := ih (cs.drop m) (by rw [List.length_drop, hl, Nat.succ_mul]; omega) (fun i hi => by
        have := hf (i + 1) (by omega)
        rw [List.drop_drop, show m + i * m = (i + 1) * m by rw [Nat.succ_mul]; omega]
        exact this)
      rw [List.replicate_succ, List.flatten_cons]
      have := h0.append hr
      rwa [List.take_append_drop] at this
  exact key n cs hl (fun i hi => by obtain ⟨y, hy⟩ := hall i hi; exact hf i hi y hy)
theorem trod_fits : ∀ (m : Nat) (t : TypeId) (ks : List IntKind), flatAt P m t = some ks → ∀ (fuel : Nat) (cs : List Value) (x : DataW H × List MemPlace), DataW.trod enc P w base spare held fuel t cs = some x → Fits cs ks
  | 0, t, ks, h, _, _, _, _ => by simp [flatAt] at h
  | m + 1, t, ks, h, 0, cs, x, hx => by simp [DataW.trod] at hx
  | m + 1, t, ks, h, fuel + 1, cs, x, hx => by
    unfold flatAt at h
    split at h
    · rename_i q hu
      simp only [Option.some.injEq] at h
      subst h
      exact trod_int1 hu hx
    · rename_i n e hu
      split at h
      · cases h
      · rename_i ks' he
        split at h
        · rename_i hc
          simp only [Option.some.injEq] at h
          subst h
          unfold DataW.trod at hx
          rw [hu] at hx
          simp only at hx
          split at hx
          · rename_i hl
            cases hm : ((List.range n).mapM fun i => DataW.trod enc P w base spare held fuel e ((cs.drop (i * P.cellsOf e)).take (P.cellsOf e))) with
            | none => rw [hm] at hx; simp at hx
            | some y =>
              refine fits_mapM n ks'.length rfl (by rw [hl, hc.2]) (fun i hi z hz => ?_) hm
              rw [← hc.1]
              exact trod_fits m e ks' he fuel _ z hz
          · cases hx
        · cases h
    · rename_i fs hu
      split at h
      · cases h
      · rename_i ks' hfs
        split at h
        · rename_i hc
          simp only [Option.some.injEq] at h
          subst h
          unfold DataW.trod at hx
          rw [hu] at hx
          simp only at hx
          split at hx
          · rename_i hl
            cases hm : (fs.toList.mapM fun f => DataW.trod enc P w base spare held fuel f.type ((cs.drop f.offset).take (P.cellsOf f.type))) with
            | none => rw [hm] at hx; simp at hx
            | some y =>
              have key : ∀ (l : List Field) (off : Nat) (ks : List IntKind) (y : List (DataW H × List MemPlace)), flatFields P (flatAt P m) l off = some ks → (l.mapM fun f => DataW.trod enc P w base spare held fuel f.type ((cs.drop f.offset).take (P.cellsOf f.type))) = some y → cs.length = off + ks.length → Fits (cs.drop off) ks := by
                intro l
                induction l with
                | nil =>
                  intro off ks y h1 _ h3
                  simp only [flatFields, Option.some.injEq] at h1
                  subst h1
                  rw [List.drop_eq_nil_of_le (by simp at h3; omega)]
                  exact ⟨rfl, fun i q hi => by simp at hi⟩
                | cons f l ih =>
                  intro off ks y h1 h2 h3
                  simp only [flatFields] at h1
                  rw [List.mapM_cons] at h2
                  cases hf : DataW.trod enc P w base spare held fuel f.type ((cs.drop f.offset).take (P.cellsOf f.type)) with
                  | none => rw [hf] at h2; simp at h2
                  | some z =>
                    rw [hf] at h2
                    simp only [Option.pure_def, Option.bind_eq_bind, Option.bind_some] at h2
                    cases hr : (l.mapM fun f => DataW.trod enc P w base spare held fuel f.type ((cs.drop f.offset).take (P.cellsOf f.type))) with
                    | none => rw [hr] at h2; simp at h2
                    | some z' =>
                      cases hk : flatAt P m f.type with
                      | none => rw [hk] at h1; simp at h1
                      | some kf =>
                        rw [hk] at h1
                        simp only at h1
                        split at h1
                        · rename_i hc2
                          cases hrest : flatFields P (flatAt P m) l (off + kf.length) with
                          | none => rw [hrest] at h1; simp at h1
                          | some kr =>
                            rw [hrest] at h1
                            simp only [Option.map_some, Option.some.injEq] at h1
                            subst h1
                            have hz := trod_fits m f.type kf hk fuel _ z hf
                            rw [hc2.1, hc2.2.1] at hz
                            have h4 := ih (off + kf.length) kr z' hrest hr (by rw [h3, List.length_append]; omega)
                            have h5 := hz.append h4
                            rw [← List.drop_drop] at h5
                            rwa [List.take_append_drop] at h5
                        · cases h1
              have := key fs.toList 0 ks' y hfs hm (by rw [hl, hc]; omega)
              simpa using this
          · cases hx
        · cases h
    · cases h
theorem open_flat {t : TypeId} {v : Value} {d : DataW H} {p : List MemPlace} {ks : List IntKind} (m : Nat) (hf : flatAt P m t = some ks) (hs : (match P.underlying t with | some (.array _ _) | some (.struct _) => true | _ => false) = true)
    (hv : Value.okWide P w r b0 t v) (h : DataW.Trod enc P w 0 (fun _ => true) true t v d p) : ∃ cs, v = .agg cs.toArray ∧ Fits cs ks := by
  have hagg : ∃ cs : Array Value, v = .agg cs := by
    unfold Value.okWide at hv
    split at hv
    · obtain ⟨cs, h1, _⟩ := hv; exact ⟨cs, h1⟩
    · obtain ⟨cs, h1, _⟩ := hv; exact ⟨cs, h1⟩
    · rename_i h1 h2; revert hs; split
      · rename_i a b e; exact absurd e (h2 a b)
      · rename_i a e; exact absurd e (h1 a)
      · simp
  obtain ⟨cs, rfl⟩ := hagg
  obtain ⟨fuel, h⟩ := h
  exact ⟨cs.toList, by simp, trod_fits m t ks hf fuel _ _ h⟩
end
end Go.PBYtabmfndiepmcgaa
end
section
namespace Go.Proofs.Ytabmfndiepmcgaa
open Go.RowKit Go.PBYtabmfndiepmcgaa
set_option linter.unusedVariables false
set_option linter.unusedSimpArgs false
set_option maxRecDepth 100000
theorem laidP : laidOutB Try.prog = true := by kernel_rfl
theorem flat32 : Flat Try.prog 23 (List.replicate 32 .u8) :=
  flat_of (m := 3) laidP (by omega) (of_decide_eq_true (by kernel_rfl)) (by kernel_rfl) (by kernel_rfl) (by kernel_rfl) (by kernel_rfl) (by kernel_rfl) (by kernel_rfl)
def KeyV (v : Value) (k : List UInt8) : Prop := v = .agg (bys k).toArray ∧ k.length = 32
theorem open_key {cs : List Value} (h : Fits cs (List.replicate 32 .u8)) : ∃ k, KeyV (.agg cs.toArray) k := by
  obtain ⟨k, hk, rfl⟩ := h.bytes
  exact ⟨k, rfl, hk⟩
end Go.Proofs.Ytabmfndiepmcgaa
end
section
namespace Go.Proofs.Ytabmfndiepmcgaa
open Go.RowKit Go.PBYtabmfndiepmcgaa
set_option linter.unusedVariables false
set_option linter.unusedSimpArgs false
set_option maxRecDepth 10000
theorem bit_ofN (x : UInt8) (m : Nat) (hm : m < 8) : decide ((UInt8.ofNat (x.toNat / 2 ^ (min m 8))).toNat % 2 = 1) = (x.toNat / 2 ^ m % 2 == 1) := by
  have h1 := UInt8.toNat_lt x
  have h2 : x.toNat / 2 ^ m < 256 := Nat.lt_of_le_of_lt (Nat.div_le_self _ _) h1
  rw [Nat.min_eq_left (by omega), UInt8.toNat_ofNat_of_lt' h2]
  rw [Bool.eq_iff_iff, decide_eq_true_iff, beq_iff_eq]
set_option maxHeartbeats 1000000 in
theorem rbit_low (k : List UInt8) (i : Nat) (h : i < 3) (hk : k.length = 32) (hi : i ≤ 254) (w : World) :
    Calls Try.prog 35 #[.agg (bys k).toArray, vN i] w fun e w' => e = .returned (.bool false) ∧ Kept [] w w' := by
  refine enter (n := 24) (R := fun e L => e = .returned (.bool false)) [.agg (bys k).toArray, vN i] Try.func35 rfl rfl rfl (St.refl w) ?_ (fun e w' L' h H => ⟨h, H.kept⟩)
  refine VC_seq ?_
  refine VC_region ?_
  refine l_boxA rfl rfl ?_
  intro b2
  refine vl_v (q_assign rfl) rfl ?_
  refine vl_nil ?_
  refine (th_n ?_)
  refine VC_seq ?_
  refine VC_seq ?_
  refine VC_region ?_
  refine vl_v (q_move rfl) rfl ?_
  refine vl_v (q_true (q_lss_n (q := 3) Try.underlying3 rfl rfl) (decide_eq_true h)) rfl ?_
  refine vl_v (q_move rfl) rfl ?_
  refine vl_skip rfl rfl ?_
  refine vl_skip rfl rfl ?_
  refine vl_v (q_pickT rfl rfl) rfl ?_
  refine vl_nil ?_
  refine (th_n ?_)
  refine VC_yes (rfl) ?_
  refine VC_seq ?_
  refine VC_region ?_
  refine vl_v (q_assign rfl) rfl ?_
  refine vl_nil ?_
  refine (th_n ?_)
  refine VC_ret ?_
  refine (th_r ?_)
  refine ⟨_, res1 rfl rfl, ?_⟩
  exact rfl
set_option maxHeartbeats 1000000 in
theorem rbit_top (k : List UInt8) (i : Nat) (h : i = 254) (hk : k.length = 32) (hi : i ≤ 254) (w : World) :
    Calls Try.prog 35 #[.agg (bys k).toArray, vN i] w fun e w' => e = .returned (.bool true) ∧ Kept [] w w' := by
  refine enter (n := 24) (R := fun e L => e = .returned (.bool true)) [.agg (bys k).toArray, vN i] Try.func35 rfl rfl rfl (St.refl w) ?_ (fun e w' L' h H => ⟨h, H.kept⟩)
  refine VC_seq ?_
  refine VC_region ?_
  refine l_boxA rfl rfl ?_
  intro b2
  refine vl_v (q_assign rfl) rfl ?_
  refine vl_nil ?_
  refine (th_n ?_)
  refine VC_seq ?_
  refine VC_seq ?_
  refine VC_region ?_
  refine vl_v (q_move rfl) rfl ?_
  refine vl_v (q_false (q_lss_n (q := 3) Try.underlying3 rfl rfl) (by simp; omega)) rfl ?_
  refine vl_v (q_move rfl) rfl ?_
  refine vl_vg rfl (q_move rfl) rfl ?_
  refine vl_vg rfl (q_false (q_eql_n (q := 255) Try.underlying3 rfl rfl) (by simp; omega)) rfl ?_
  refine vl_v (q_pickF rfl rfl) rfl ?_
  refine vl_nil ?_
  refine (th_n ?_)
  refine VC_no (rfl) ?_
  refine VC_skip ?_
  refine (th_n ?_)
  refine VC_seq ?_
  refine VC_region ?_
  refine vl_v (q_move rfl) rfl ?_
  refine vl_v (q_true (q_eql_n (q := 254) Try.underlying3 rfl rfl) (decide_eq_true h)) rfl ?_
  refine vl_v (q_move rfl) rfl ?_
  refine vl_skip rfl rfl ?_
  refine vl_skip rfl rfl ?_
  refine vl_skip rfl rfl ?_
  refine vl_skip rfl rfl ?_
  refine vl_skip rfl rfl ?_
  refine vl_skip rfl rfl ?_
  refine vl_skip rfl rfl ?_
  refine vl_skip rfl rfl ?_
  refine vl_skip rfl rfl ?_
  refine vl_v (q_pickT rfl rfl) rfl ?_
  refine vl_v (q_assign rfl) rfl ?_
  refine vl_nil ?_
  refine (th_n ?_)
  refine VC_ret ?_
  refine ⟨_, res1 rfl rfl, ?_⟩
  exact rfl
set_option maxHeartbeats 1000000 in
theorem rbit_mid (k : List UInt8) (i : Nat) (h : ¬ i < 3) (h' : ¬ i = 254) (s : Bool) (hs : ((k.getD (i / 8) 0).toNat / 2 ^ (i % 8) % 2 == 1) = s) (hk : k.length = 32) (hi : i ≤ 254) (w : World) :
    Calls Try.prog 35 #[.agg (bys k).toArray, vN i] w fun e w' => e = .returned (.bool s) ∧ Kept [] w w' := by
  refine enter (n := 24) (R := fun e L => e = .returned (.bool s)) [.agg (bys k).toArray, vN i] Try.func35 rfl rfl rfl (St.refl w) ?_ (fun e w' L' h H => ⟨h, H.kept⟩)
  refine VC_seq ?_
  refine VC_region ?_
  refine l_boxA rfl rfl ?_
  intro b2
  refine vl_v (q_assign rfl) rfl ?_
  refine vl_nil ?_
  refine (th_n ?_)
  refine VC_seq ?_
  refine VC_seq ?_
  refine VC_region ?_
  refine vl_v (q_move rfl) rfl ?_
  refine vl_v (q_false (q_lss_n (q := 3) Try.underlying3 rfl rfl) (by simp; omega)) rfl ?_
  refine vl_v (q_move rfl) rfl ?_
  refine vl_vg rfl (q_move rfl) rfl ?_
  refine vl_vg rfl (q_false (q_eql_n (q := 255) Try.underlying3 rfl rfl) (by simp; omega)) rfl ?_
  refine vl_v (q_pickF rfl rfl) rfl ?_
  refine vl_nil ?_
  refine (th_n ?_)
  refine VC_no (rfl) ?_
  refine VC_skip ?_
  refine (th_n ?_)
  refine VC_seq ?_
  refine VC_region ?_
  refine vl_v (q_move rfl) rfl ?_
  refine vl_v (q_false (q_eql_n (q := 254) Try.underlying3 rfl rfl) (by simp; omega)) rfl ?_
  refine vl_v (q_move rfl) rfl ?_
  refine vl_vg rfl (q_move rfl) rfl ?_
  refine vl_vg rfl (q_quo_n (q := 8) rfl rfl (by omega) (by omega)) rfl ?_
  refine vl_vg rfl (q_idxA Try.underlying23 sz5 rfl rfl (by omega) (r := _) (by rw [Nat.mul_one, Nat.zero_add])) rfl ?_
  refine vl_vg rfl (q_load 0 Try.underlying5 rfl rfl rfl (bys_at (by omega))) rfl ?_
  refine vl_vg rfl (q_move rfl) rfl ?_
  refine vl_vg rfl (q_rem_n (q := 8) rfl rfl (by omega)) rfl ?_
  refine vl_vg rfl (q_shr_u8 rfl rfl) rfl ?_
  refine vl_vg rfl (q_rem_n (q := 2) rfl rfl (by omega)) rfl ?_
  refine vl_vg rfl (q_as (v := .bool s) (q_eql_n (q := 1) Try.underlying5 rfl rfl) (by rw [bit_ofN _ _ (Nat.mod_lt _ (by decide)), hs])) rfl ?_
  refine vl_v (q_pickF rfl rfl) rfl ?_
  refine vl_v (q_assign rfl) rfl ?_
  refine vl_nil ?_
  refine (th_n ?_)
  refine VC_ret ?_
  refine ⟨_, res1 rfl rfl, ?_⟩
  exact rfl
theorem rbit_calls (k : List UInt8) (i : Nat) (s : Bool) (hs : sbit k i = s) (hk : k.length = 32) (hi : i ≤ 254) (w : World) :
    Calls Try.prog 35 #[.agg (bys k).toArray, vN i] w fun e w' => e = .returned (.bool s) ∧ Kept [] w w' := by
  by_cases h : i < 3
  · rw [← hs, show sbit k i = false by unfold sbit; rw [if_pos (.inl h)]]
    exact rbit_low k i h hk hi w
  · by_cases h' : i = 254
    · rw [← hs, show sbit k i = true by unfold sbit; rw [if_neg (by omega), if_pos h']]
      exact rbit_top k i h' hk hi w
    · exact rbit_mid k i h h' s (by rw [← hs]; unfold sbit; rw [if_neg (by omega), if_neg h']) hk hi w
end Go.Proofs.Ytabmfndiepmcgaa
end
