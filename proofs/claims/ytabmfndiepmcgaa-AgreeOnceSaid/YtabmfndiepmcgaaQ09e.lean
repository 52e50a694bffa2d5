/- Words and laws that the proofs of this seat share, part 5 of 8. No condition. -/
import Derived.Test.YtabmfndiepmcgaaQ09d
section
namespace Go.Proofs.Ytabmfndiepmcgaa
open Go.RowKit Go.PBYtabmfndiepmcgaa
set_option linter.unusedVariables false
set_option linter.unusedSimpArgs false
set_option maxRecDepth 10000
set_option maxHeartbeats 2000000 in
theorem of_calls (k : List UInt8) (hk : k.length = 32) (w : World) :
    Calls Try.prog 45 #[.agg (bys k).toArray] w fun e w' => e = .returned (.agg (i64s (ofL k)).toArray) ∧ Kept [] w w' := by
  have hol := (ofL_okE hk).1
  refine enter (n := 32) (R := fun e L => e = .returned (.agg (i64s (ofL k)).toArray)) [.agg (bys k).toArray] Try.func45 rfl rfl rfl (St.refl w) ?_ (fun e w' L' h H => ⟨h, H.kept⟩)
  refine VC_seq ?_
  refine VC_region ?_
  refine l_boxA rfl rfl ?_
  intro b1
  refine l_allocA zr78 rfl ?_
  intro b2
  refine vl_nil ?_
  refine (th_n ?_)
  refine VC_seq ?_
  refine VC_region ?_
  refine l_allocA zr78 rfl ?_
  intro b3
  refine vl_nil ?_
  refine (th_n ?_)
  refine VC_seq ?_
  refine VC_seq ?_
  refine VC_region ?_
  refine vl_v (q_move rfl) rfl ?_
  refine vl_nil ?_
  refine (th_n ?_)
  refine VC_block ?_
  refine VC_loop (ι := Nat) (fun i => i ≤ 16) (fun i => [(1, vP b1 0), (2, vP b2 0), (3, vP b3 0), (5, vN i)]) (fun i => [.blk b3 78 (i64s (ofSt k i)), .blk b2 78 (i64s (List.replicate 16 0)), .blk b1 23 (bys k)]) (fun i => 16 - i) 0 (by omega) (Sub.cons (s := 1) rfl (Sub.cons (s := 2) rfl (Sub.cons (s := 3) rfl (Sub.cons (s := 5) rfl (Sub.nil _))))) (fun w H => H) ?_
  rintro i hp
  have hl := ofSt_length k i
  refine VC_seq ?_
  refine VC_region ?_
  refine vl_v (q_lss_n (q := 16) Try.underlying3 rfl rfl) rfl ?_
  refine vl_nil ?_
  refine (th_n ?_)
  refine VC_seq ?_
  refine VC_cond rfl (fun ht6 => ?_) (fun ht6 => ?_)
  · skip
    have ht6 := of_decide_eq_true ht6
    refine VC_skip ?_
    refine (th_n ?_)
    refine VC_seq ?_
    refine VC_block ?_
    refine VC_seq ?_
    refine VC_region ?_
    refine vl_v (q_move rfl) rfl ?_
    refine vl_v (q_assign rfl) rfl ?_
    refine vl_nil ?_
    refine (th_n ?_)
    have ht6 : i < 16 := ht6
    have hb1 := UInt8.toNat_lt (k.getD (2 * i) 0)
    have hb2 := UInt8.toNat_lt (k.getD (2 * i + 1) 0)
    refine VC_drawV 15 [[], [], [1], [2], [3], [4], [], [6], [7], [8], [9], [10], [11], [5, 12], [], [14, 0, 1, 2, 3, 4, 5, 6, 7, 8, 9, 10, 11, 12, 13], [15, 13, 0, 1, 2, 3, 4, 5, 6, 7, 8, 9, 10, 11, 12]] [[], [], [1], [1, 2], [1, 2, 3], [1, 2, 3, 4], [], [6], [6, 7], [6, 7, 8], [6, 7, 8, 9], [6, 7, 8, 9, 10], [6, 7, 8, 9, 10, 11], [1, 2, 3, 4, 5, 6, 7, 8, 9, 10, 11, 12], [], [0, 1, 2, 3, 4, 5, 6, 7, 8, 9, 10, 11, 12, 13, 14], [0, 1, 2, 3, 4, 5, 6, 7, 8, 9, 10, 11, 12, 13, 14, 15]] rfl (by kernel_rfl) ?_
    refine qv_v (q_move rfl) ?_
    refine qv_v (q_move rfl) ?_
    refine qv_v (q_mul_n (p := 2) rfl rfl (by omega)) ?_
    refine qv_v (q_idxA Try.underlying23 sz5 rfl rfl (by omega) (r := _) (by rw [Nat.mul_one, Nat.zero_add])) ?_
    refine qv_v (q_load 2 Try.underlying5 rfl rfl rfl (bys_at (by omega))) ?_
    refine qv_v (q_conv_nn Try.underlying5 Try.underlying2 rfl (by omega)) ?_
    refine qv_v (q_move rfl) ?_
    refine qv_v (q_mul_n (p := 2) rfl rfl (by omega)) ?_
    refine qv_v (q_add_n (q := 1) rfl rfl (by omega)) ?_
    refine qv_v (q_idxA Try.underlying23 sz5 rfl rfl (by omega) (r := _) (by rw [Nat.mul_one, Nat.zero_add])) ?_
    refine qv_v (q_load 2 Try.underlying5 rfl rfl rfl (bys_at (by omega))) ?_
    refine qv_v (q_conv_nn Try.underlying5 Try.underlying2 rfl (by omega)) ?_
    refine qv_v (q_as (v := vI (((k.getD (2 * i + 1) 0).toNat : Int) * 256)) (q_shl_i (m := 8) rfl rfl (by decide) (by omega) (by omega)) rfl) ?_
    refine qv_v (q_or_b hb1 hb2 rfl rfl) ?_
    refine qv_v (q_fldA fo78_0 (by decide) rfl rfl) ?_
    refine qv_end ?_
    refine VL.keep (Sub.cons (s := 1) rfl (Sub.cons (s := 2) rfl (Sub.cons (s := 3) rfl (Sub.cons (s := 5) rfl (Sub.cons (s := 6) rfl (Sub.cons (s := 4) rfl (Sub.cons (s := 8) rfl (Sub.cons (s := 21) rfl (Sub.cons (s := 22) rfl (Sub.nil _)))))))))) ?_
    refine vl_v (q_idxA Try.underlying76 sz2 rfl rfl (by omega) (r := _) (by rw [Nat.mul_one, Nat.zero_add])) rfl ?_
    refine l_stI 0 rfl rfl rfl sz2 (by omega) ?_
    simp only [List.set_cons_zero, List.set_cons_succ]
    refine vl_nil ?_
    refine (qn_n (bl_n (th_n ?_)))
    refine VC_region ?_
    refine vl_v (q_add_n (q := 1) rfl rfl (by omega)) rfl ?_
    refine vl_v (q_move rfl) rfl ?_
    refine vl_nil ?_
    refine (th_n ?_)
    refine ⟨i + 1, by omega, by omega, (Sub.cons (s := 1) rfl (Sub.cons (s := 2) rfl (Sub.cons (s := 3) rfl (Sub.cons (s := 5) rfl (Sub.nil _))))), fun w H => H⟩
  · skip
    have ht6 := of_decide_eq_false ht6
    obtain rfl : i = 16 := by omega
    refine VC_exit ?_
    refine (th_x (th_x (bl_xs (th_n ?_))))
    refine VC_seq ?_
    refine VC_region ?_
    refine vl_v (q_fldA fo78_0 (by decide) rfl rfl) rfl ?_
    refine vl_v (q_idxA (m := 15) Try.underlying76 sz2 rfl rfl (by omega) (r := _) (by rw [Nat.mul_one, Nat.zero_add])) rfl ?_
    refine vl_v (q_load 0 Try.underlying2 rfl rfl rfl (i64s_at (by omega))) rfl ?_
    refine vl_v (q_and_i 15 (by omega) (by decide) rfl rfl) rfl ?_
    refine vl_v (q_fldA fo78_0 (by decide) rfl rfl) rfl ?_
    refine vl_v (q_idxA (m := 15) Try.underlying76 sz2 rfl rfl (by omega) (r := _) (by rw [Nat.mul_one, Nat.zero_add])) rfl ?_
    refine l_stI 0 rfl rfl rfl sz2 (by omega) ?_
    simp only [List.set_cons_zero, List.set_cons_succ]
    refine vl_nil ?_
    refine (th_n ?_)
    refine VC_seq ?_
    rw [show (ofSt k 16).set 15 ((ofSt k 16).getD 15 0 % 2 ^ 15) = ofL k from rfl]
    refine VC_region ?_
    refine vl_v (q_loads 0 Try.underlying78 rfl rfl rfl sz78 (by simp only [zb, zu, zw, zi, za]; omega)) rfl ?_
    refine l_storeA 1 rfl rfl rfl sz78 (by simp only [zb, zu, zw, zi, za]; omega) (by with_reducible first | exact bys_one _ | exact u32s_one _ | exact u64s_one _ | exact i64s_one _ | exact n64s_one _ | assumption) (by simp only [zs, zr, zm, za, zb, zu, zw, zi, zt, zd, zc, zn, *] <;> first | done | omega) ?_
    simp only [List.set_cons_zero, List.set_cons_succ]
    refine vl_nil ?_
    refine (th_n ?_)
    refine VC_ret ?_
    refine ⟨_, resC1 1 rfl Try.underlying78 rfl rfl rfl sz78 (by simp only [zb, zu, zw, zi, za]; omega), ?_⟩
    exact rfl
set_option maxHeartbeats 2000000 in
theorem add_calls (e f : List Int) (he : okE e) (hf : okE f) (w : World) :
    Calls Try.prog 47 #[.agg (i64s e).toArray, .agg (i64s f).toArray] w fun e' w' => e' = .returned (.agg (i64s (addL e f)).toArray) ∧ Kept [] w w' := by
  have hel := he.1
  have hfl := hf.1
  have hal := (addL_okE he hf).1
  refine enter (n := 24) (R := fun e' L => e' = .returned (.agg (i64s (addL e f)).toArray)) [.agg (i64s e).toArray, .agg (i64s f).toArray] Try.func47 rfl rfl rfl (St.refl w) ?_ (fun e w' L' h H => ⟨h, H.kept⟩)
  refine VC_seq ?_
  refine VC_region ?_
  refine l_boxA rfl rfl ?_
  intro b2
  refine l_boxA rfl rfl ?_
  intro b3
  refine l_allocA zr78 rfl ?_
  intro b4
  refine vl_nil ?_
  refine (th_n ?_)
  refine VC_seq ?_
  refine VC_seq ?_
  refine VC_region ?_
  refine vl_v (q_fldA fo78_0 (by decide) rfl rfl) rfl ?_
  refine vl_v (q_loads 1 Try.underlying76 rfl rfl rfl sz76 (by rw [i64s_length]; exact hfl)) rfl ?_
  refine vl_v (q_move rfl) rfl ?_
  refine vl_nil ?_
  refine (th_n ?_)
  refine VC_block ?_
  refine VC_loop (ι := Nat) (fun i => i ≤ 16) (fun i => [(2, vP b2 0), (4, vP b4 0), (8, .agg (i64s f).toArray), (9, vN i)]) (fun i => [.blk b2 78 (i64s (addSt e f i)), .blk b4 78 (i64s (List.replicate 16 0))]) (fun i => 16 - i) 0 (by omega) (Sub.cons (s := 2) rfl (Sub.cons (s := 4) rfl (Sub.cons (s := 8) rfl (Sub.cons (s := 9) rfl (Sub.nil _))))) (fun w H => St.pick H (ks := [2, 0]) (by decide) rfl) ?_
  rintro i hp
  have hl := (addSt_length e f i).trans hel
  refine VC_seq ?_
  refine VC_region ?_
  refine vl_v (q_lss_n (q := 16) Try.underlying3 rfl rfl) rfl ?_
  refine vl_nil ?_
  refine (th_n ?_)
  refine VC_seq ?_
  refine VC_cond rfl (fun ht10 => ?_) (fun ht10 => ?_)
  · skip
    have ht10 := of_decide_eq_true ht10
    refine VC_skip ?_
    refine (th_n ?_)
    refine VC_seq ?_
    refine VC_block ?_
    refine VC_seq ?_
    have ht10 : i < 16 := ht10
    have h1 := he.all i ht10
    have h2 := hf.all i ht10
    have hg := addSt_get (f := f) hel i (by omega) i
    rw [if_neg (show ¬ i < i by omega)] at hg
    refine VC_region ?_
    refine vl_v (q_move rfl) rfl ?_
    refine vl_v (q_idxV (m := i) Try.underlying76 Try.underlying2 rfl sz2 rfl rfl (by omega) (i64s_atT (by omega))) rfl ?_
    refine vl_v (q_assign rfl) rfl ?_
    refine vl_v (q_assign rfl) rfl ?_
    refine vl_nil ?_
    refine (th_n ?_)
    refine VC_region ?_
    refine vl_v (q_move rfl) rfl ?_
    refine vl_v (q_fldA fo78_0 (by decide) rfl rfl) rfl ?_
    refine vl_v (q_idxA Try.underlying76 sz2 rfl rfl (by omega) (r := _) (by rw [Nat.mul_one, Nat.zero_add])) rfl ?_
    refine vl_v (q_load 0 Try.underlying2 rfl rfl rfl (i64s_at (by omega))) rfl ?_
    refine vl_v (q_move rfl) rfl ?_
    refine vl_v (q_add_i rfl rfl (by omega) (by omega)) rfl ?_
    refine vl_v (q_fldA fo78_0 (by decide) rfl rfl) rfl ?_
    refine vl_v (q_idxA Try.underlying76 sz2 rfl rfl (by omega) (r := _) (by rw [Nat.mul_one, Nat.zero_add])) rfl ?_
    refine l_stI 0 rfl rfl rfl sz2 (by omega) ?_
    simp only [List.set_cons_zero, List.set_cons_succ]
    refine vl_nil ?_
    refine (bl_n (th_n ?_))
    refine VC_region ?_
    refine vl_v (q_add_n (q := 1) rfl rfl (by omega)) rfl ?_
    refine vl_v (q_move rfl) rfl ?_
    refine vl_nil ?_
    refine (th_n ?_)
    refine ⟨i + 1, by omega, by omega, (Sub.cons (s := 2) rfl (Sub.cons (s := 4) rfl (Sub.cons (s := 8) rfl (Sub.cons (s := 9) rfl (Sub.nil _))))), fun w H => H⟩
  · skip
    have ht10 := of_decide_eq_false ht10
    obtain rfl : i = 16 := by omega
    refine VC_exit ?_
    refine (th_x (th_x (bl_xs (th_n ?_))))
    refine VC_seq ?_
    refine VC_region ?_
    refine l_callE Try.func62 rfl rfl rfl (fun w1 H1 => carry_calls (addSt e f 16) b2 hl (fun j hj => by have h1 := he.all j hj; have h2 := hf.all j hj; have hg := addSt_get (f := f) hel 16 (by omega) j; rw [if_pos hj] at hg; omega) w1 H1) rfl ?_
    rw [show carryL (addSt e f 16) = addL e f from rfl]
    refine vl_nil ?_
    refine (th_n ?_)
    refine VC_seq ?_
    refine VC_region ?_
    refine vl_v (q_loads 0 Try.underlying78 rfl rfl rfl sz78 (by simp only [zb, zu, zw, zi, za]; omega)) rfl ?_
    refine l_storeA 1 rfl rfl rfl sz78 (by simp only [zb, zu, zw, zi, za]; omega) (by with_reducible first | exact bys_one _ | exact u32s_one _ | exact u64s_one _ | exact i64s_one _ | exact n64s_one _ | assumption) (by simp only [zs, zr, zm, za, zb, zu, zw, zi, zt, zd, zc, zn, *] <;> first | done | omega) ?_
    simp only [List.set_cons_zero, List.set_cons_succ]
    refine vl_nil ?_
    refine (th_n ?_)
    refine VC_ret ?_
    refine ⟨_, resC1 1 rfl Try.underlying78 rfl rfl rfl sz78 (by simp only [zb, zu, zw, zi, za]; omega), ?_⟩
    exact rfl
set_option maxHeartbeats 2000000 in
theorem sub_calls (e f : List Int) (he : okE e) (hf : okE f) (w : World) :
    Calls Try.prog 48 #[.agg (i64s e).toArray, .agg (i64s f).toArray] w fun e' w' => e' = .returned (.agg (i64s (subL e f)).toArray) ∧ Kept [] w w' := by
  have hel := he.1
  have hfl := hf.1
  have hal := (subL_okE he hf).1
  refine enter (n := 24) (R := fun e' L => e' = .returned (.agg (i64s (subL e f)).toArray)) [.agg (i64s e).toArray, .agg (i64s f).toArray] Try.func48 rfl rfl rfl (St.refl w) ?_ (fun e w' L' h H => ⟨h, H.kept⟩)
  refine VC_seq ?_
  refine VC_region ?_
  refine l_boxA rfl rfl ?_
  intro b2
  refine l_boxA rfl rfl ?_
  intro b3
  refine l_allocA zr78 rfl ?_
  intro b4
  refine vl_nil ?_
  refine (th_n ?_)
  refine VC_seq ?_
  refine VC_seq ?_
  refine VC_region ?_
  refine vl_v (q_fldA fo78_0 (by decide) rfl rfl) rfl ?_
  refine vl_v (q_loads 1 Try.underlying76 rfl rfl rfl sz76 (by rw [i64s_length]; exact hfl)) rfl ?_
  refine vl_v (q_move rfl) rfl ?_
  refine vl_nil ?_
  refine (th_n ?_)
  refine VC_block ?_
  refine VC_loop (ι := Nat) (fun i => i ≤ 16) (fun i => [(2, vP b2 0), (4, vP b4 0), (8, .agg (i64s f).toArray), (9, vN i)]) (fun i => [.blk b2 78 (i64s (subSt e f i)), .blk b4 78 (i64s (List.replicate 16 0))]) (fun i => 16 - i) 0 (by omega) (Sub.cons (s := 2) rfl (Sub.cons (s := 4) rfl (Sub.cons (s := 8) rfl (Sub.cons (s := 9) rfl (Sub.nil _))))) (fun w H => St.pick H (ks := [2, 0]) (by decide) rfl) ?_
  rintro i hp
  have hl := (subSt_length e f i).trans hel
  refine VC_seq ?_
  refine VC_region ?_
  refine vl_v (q_lss_n (q := 16) Try.underlying3 rfl rfl) rfl ?_
  refine vl_nil ?_
  refine (th_n ?_)
  refine VC_seq ?_
  refine VC_cond rfl (fun ht10 => ?_) (fun ht10 => ?_)
  · skip
    have ht10 := of_decide_eq_true ht10
    refine VC_skip ?_
    refine (th_n ?_)
    refine VC_seq ?_
    refine VC_block ?_
    refine VC_seq ?_
    have ht10 : i < 16 := ht10
    have h1 := he.all i ht10
    have h2 := hf.all i ht10
    have hg := subSt_get (f := f) hel i (by omega) i
    rw [if_neg (show ¬ i < i by omega)] at hg
    refine VC_region ?_
    refine vl_v (q_move rfl) rfl ?_
    refine vl_v (q_idxV (m := i) Try.underlying76 Try.underlying2 rfl sz2 rfl rfl (by omega) (i64s_atT (by omega))) rfl ?_
    refine vl_v (q_assign rfl) rfl ?_
    refine vl_v (q_assign rfl) rfl ?_
    refine vl_nil ?_
    refine (th_n ?_)
    refine VC_region ?_
    refine vl_v (q_move rfl) rfl ?_
    refine vl_v (q_fldA fo78_0 (by decide) rfl rfl) rfl ?_
    refine vl_v (q_idxA Try.underlying76 sz2 rfl rfl (by omega) (r := _) (by rw [Nat.mul_one, Nat.zero_add])) rfl ?_
    refine vl_v (q_load 0 Try.underlying2 rfl rfl rfl (i64s_at (by omega))) rfl ?_
    refine vl_v (q_move rfl) rfl ?_
    refine vl_v (q_sub_i rfl rfl (by omega) (by omega)) rfl ?_
    refine vl_v (q_fldA fo78_0 (by decide) rfl rfl) rfl ?_
    refine vl_v (q_idxA Try.underlying76 sz2 rfl rfl (by omega) (r := _) (by rw [Nat.mul_one, Nat.zero_add])) rfl ?_
    refine l_stI 0 rfl rfl rfl sz2 (by omega) ?_
    simp only [List.set_cons_zero, List.set_cons_succ]
    refine vl_nil ?_
    refine (bl_n (th_n ?_))
    refine VC_region ?_
    refine vl_v (q_add_n (q := 1) rfl rfl (by omega)) rfl ?_
    refine vl_v (q_move rfl) rfl ?_
    refine vl_nil ?_
    refine (th_n ?_)
    refine ⟨i + 1, by omega, by omega, (Sub.cons (s := 2) rfl (Sub.cons (s := 4) rfl (Sub.cons (s := 8) rfl (Sub.cons (s := 9) rfl (Sub.nil _))))), fun w H => H⟩
  · skip
    have ht10 := of_decide_eq_false ht10
    obtain rfl : i = 16 := by omega
    refine VC_exit ?_
    refine (th_x (th_x (bl_xs (th_n ?_))))
    refine VC_seq ?_
    refine VC_region ?_
    refine l_callE Try.func62 rfl rfl rfl (fun w1 H1 => carry_calls (subSt e f 16) b2 hl (fun j hj => by have h1 := he.all j hj; have h2 := hf.all j hj; have hg := subSt_get (f := f) hel 16 (by omega) j; rw [if_pos hj] at hg; omega) w1 H1) rfl ?_
    rw [show carryL (subSt e f 16) = subL e f from rfl]
    refine vl_nil ?_
    refine (th_n ?_)
    refine VC_seq ?_
    refine VC_region ?_
    refine vl_v (q_loads 0 Try.underlying78 rfl rfl rfl sz78 (by simp only [zb, zu, zw, zi, za]; omega)) rfl ?_
    refine l_storeA 1 rfl rfl rfl sz78 (by simp only [zb, zu, zw, zi, za]; omega) (by with_reducible first | exact bys_one _ | exact u32s_one _ | exact u64s_one _ | exact i64s_one _ | exact n64s_one _ | assumption) (by simp only [zs, zr, zm, za, zb, zu, zw, zi, zt, zd, zc, zn, *] <;> first | done | omega) ?_
    simp only [List.set_cons_zero, List.set_cons_succ]
    refine vl_nil ?_
    refine (th_n ?_)
    refine VC_ret ?_
    refine ⟨_, resC1 1 rfl Try.underlying78 rfl rfl rfl sz78 (by simp only [zb, zu, zw, zi, za]; omega), ?_⟩
    exact rfl
set_option maxHeartbeats 4000000 in
theorem mul_calls (e f : List Int) (he : okE e) (hf : okE f) (w : World) :
    Calls Try.prog 49 #[.agg (i64s e).toArray, .agg (i64s f).toArray] w fun e' w' => e' = .returned (.agg (i64s (mulL e f)).toArray) ∧ Kept [] w w' := by
  have hel := he.1
  have hfl := hf.1
  have hal := (mulL_okE he hf).1
  have hml := mulOut_length e f
  refine enter (n := 55) (R := fun e' L => e' = .returned (.agg (i64s (mulL e f)).toArray)) [.agg (i64s e).toArray, .agg (i64s f).toArray] Try.func49 rfl rfl rfl (St.refl w) ?_ (fun e w' L' h H => ⟨h, H.kept⟩)
  refine VC_seq ?_
  refine VC_region ?_
  refine l_boxA rfl rfl ?_
  intro b2
  refine l_boxA rfl rfl ?_
  intro b3
  refine l_allocA zr78 rfl ?_
  intro b4
  refine vl_nil ?_
  refine (th_n ?_)
  refine VC_seq ?_
  refine VC_region ?_
  refine l_allocA zr99 rfl ?_
  intro b5
  refine vl_nil ?_
  refine (th_n ?_)
  refine VC_seq ?_
  refine VC_seq ?_
  refine VC_region ?_
  refine vl_v (q_fldA fo78_0 (by decide) rfl rfl) rfl ?_
  refine vl_v (q_loads 3 Try.underlying76 rfl rfl rfl sz76 (by rw [i64s_length]; exact hel)) rfl ?_
  refine vl_v (q_move rfl) rfl ?_
  refine vl_nil ?_
  refine (th_n ?_)
  refine VC_block ?_
  refine VC_loop (ι := Nat) (fun i => i ≤ 16) (fun i => [(3, vP b3 0), (4, vP b4 0), (5, vP b5 0), (13, .agg (i64s e).toArray), (14, vN i)]) (fun i => [.blk b5 99 (i64s (mulOut e f i)), .blk b4 78 (i64s (List.replicate 16 0)), .blk b3 78 (i64s f)]) (fun i => 16 - i) 0 (by omega) (Sub.cons (s := 3) rfl (Sub.cons (s := 4) rfl (Sub.cons (s := 5) rfl (Sub.cons (s := 13) rfl (Sub.cons (s := 14) rfl (Sub.nil _)))))) (fun w H => St.pick H (ks := [0, 1, 2]) (by decide) rfl) ?_
  rintro i hp
  refine VC_seq ?_
  refine VC_region ?_
  refine vl_v (q_lss_n (q := 16) Try.underlying3 rfl rfl) rfl ?_
  refine vl_nil ?_
  refine (th_n ?_)
  refine VC_seq ?_
  refine VC_cond rfl (fun ht15 => ?_) (fun ht15 => ?_)
  · skip
    have ht15 := of_decide_eq_true ht15
    refine VC_skip ?_
    refine (th_n ?_)
    refine VC_seq ?_
    refine VC_block ?_
    refine VC_seq ?_
    refine VC_region ?_
    refine vl_v (q_move rfl) rfl ?_
    refine vl_v (q_idxV (m := i) Try.underlying76 Try.underlying2 rfl sz2 rfl rfl (by omega) (i64s_atT (by omega))) rfl ?_
    refine vl_v (q_assign rfl) rfl ?_
    refine vl_v (q_assign rfl) rfl ?_
    refine vl_nil ?_
    refine (th_n ?_)
    refine VC_seq ?_
    refine VC_region ?_
    refine vl_v (q_fldA fo78_0 (by decide) rfl rfl) rfl ?_
    refine vl_v (q_loads 2 Try.underlying76 rfl rfl rfl sz76 (by rw [i64s_length]; exact hfl)) rfl ?_
    refine vl_v (q_move rfl) rfl ?_
    refine vl_nil ?_
    refine (th_n ?_)
    refine VC_block ?_
    refine VC_loop (ι := Nat) (fun k => k ≤ 16) (fun k => [(3, vP b3 0), (4, vP b4 0), (5, vP b5 0), (6, vN i), (7, vI (e.getD i 0)), (13, .agg (i64s e).toArray), (14, vN i), (19, .agg (i64s f).toArray), (20, vN k)]) (fun k => [.blk b5 99 (i64s (mulIn e f i (mulOut e f i) k)), .blk b4 78 (i64s (List.replicate 16 0)), .blk b3 78 (i64s f)]) (fun k => 16 - k) 0 (by omega) (Sub.cons (s := 3) rfl (Sub.cons (s := 4) rfl (Sub.cons (s := 5) rfl (Sub.cons (s := 6) rfl (Sub.cons (s := 7) rfl (Sub.cons (s := 13) rfl (Sub.cons (s := 14) rfl (Sub.cons (s := 19) rfl (Sub.cons (s := 20) rfl (Sub.nil _)))))))))) (fun w H => H) ?_
    rintro k hp
    have hil := (mulIn_length e f i (mulOut e f i) k).trans (hml i)
    refine VC_seq ?_
    refine VC_region ?_
    refine vl_v (q_lss_n (q := 16) Try.underlying3 rfl rfl) rfl ?_
    refine vl_nil ?_
    refine (th_n ?_)
    refine VC_seq ?_
    refine VC_cond rfl (fun ht21 => ?_) (fun ht21 => ?_)
    · skip
      have ht21 := of_decide_eq_true ht21
      refine VC_skip ?_
      refine (th_n ?_)
      refine VC_seq ?_
      refine VC_block ?_
      refine VC_seq ?_
      have ht15 : i < 16 := ht15
      have ht21 : k < 16 := ht21
      have hmb := (mulIn_bound (e := e) (f := f) (i := i) he.all hf.all (by omega) ht15 (hml i) (mulOut_bound he.all hf.all (by omega) i (by omega)) k (by omega) (i + k) (by omega)).1
      have hpb : -17179869184 ≤ e.getD i 0 * f.getD k 0 ∧ e.getD i 0 * f.getD k 0 ≤ 17179869184 := by have h2 : (e.getD i 0 * f.getD k 0).natAbs ≤ 131072 * 131072 := by {rw [Int.natAbs_mul]; have h3 := he.all i ht15; have h4 := hf.all k ht21; exact Nat.mul_le_mul (by omega) (by omega)}; omega
      refine VC_region ?_
      refine vl_v (q_move rfl) rfl ?_
      refine vl_v (q_idxV (m := k) Try.underlying76 Try.underlying2 rfl sz2 rfl rfl (by omega) (i64s_atT (by omega))) rfl ?_
      refine vl_v (q_assign rfl) rfl ?_
      refine vl_v (q_assign rfl) rfl ?_
      refine vl_nil ?_
      refine (th_n ?_)
      refine VC_region ?_
      refine vl_v (q_move rfl) rfl ?_
      refine vl_v (q_move rfl) rfl ?_
      refine vl_v (q_add_n rfl rfl (by omega)) rfl ?_
      refine vl_v (q_idxA Try.underlying99 sz2 rfl rfl (by omega) (r := _) (by rw [Nat.mul_one, Nat.zero_add])) rfl ?_
      refine vl_v (q_load 0 Try.underlying2 rfl rfl rfl (i64s_at (by omega))) rfl ?_
      refine vl_v (q_move rfl) rfl ?_
      refine vl_v (q_move rfl) rfl ?_
      refine vl_v (q_mul_i rfl rfl (by omega) (by omega)) rfl ?_
      refine vl_v (q_add_i rfl rfl (by omega) (by omega)) rfl ?_
      refine vl_v (q_idxA Try.underlying99 sz2 rfl rfl (by omega) (r := _) (by rw [Nat.mul_one, Nat.zero_add])) rfl ?_
      refine l_stI 0 rfl rfl rfl sz2 (by omega) ?_
      simp only [List.set_cons_zero, List.set_cons_succ]
      refine vl_nil ?_
      refine (bl_n (th_n ?_))
      refine VC_region ?_
      refine vl_v (q_add_n (q := 1) rfl rfl (by omega)) rfl ?_
      refine vl_v (q_move rfl) rfl ?_
      refine vl_nil ?_
      refine (th_n ?_)
      refine ⟨k + 1, by omega, by omega, (Sub.cons (s := 3) rfl (Sub.cons (s := 4) rfl (Sub.cons (s := 5) rfl (Sub.cons (s := 6) rfl (Sub.cons (s := 7) rfl (Sub.cons (s := 13) rfl (Sub.cons (s := 14) rfl (Sub.cons (s := 19) rfl (Sub.cons (s := 20) rfl (Sub.nil _)))))))))), fun w H => H⟩
    · skip
      have ht21 := of_decide_eq_false ht21
      obtain rfl : k = 16 := by omega
      refine VC_exit ?_
      refine (th_x (th_x (bl_xs (bl_n (th_n ?_)))))
      refine VC_region ?_
      refine vl_v (q_add_n (q := 1) rfl rfl (by omega)) rfl ?_
      refine vl_v (q_move rfl) rfl ?_
      refine vl_nil ?_
      refine (th_n ?_)
      refine ⟨i + 1, by omega, by omega, (Sub.cons (s := 3) rfl (Sub.cons (s := 4) rfl (Sub.cons (s := 5) rfl (Sub.cons (s := 13) rfl (Sub.cons (s := 14) rfl (Sub.nil _)))))), fun w H => H⟩
  · skip
    have ht15 := of_decide_eq_false ht15
    obtain rfl : i = 16 := by omega
    have hml16 := hml 16
    have hmb := mulOut_bound he.all hf.all (by omega) 16 (by omega)
    refine VC_exit ?_
    refine (th_x (th_x (bl_xs (th_n ?_))))
    refine VC_seq ?_
    refine VC_region ?_
    refine l_allocA zr78 rfl ?_
    intro b10
    refine vl_nil ?_
    refine (th_n ?_)
    refine VC_seq ?_
    refine VC_seq ?_
    refine VC_region ?_
    refine vl_v (q_move rfl) rfl ?_
    refine vl_nil ?_
    refine (th_n ?_)
    refine VC_block ?_
    refine VC_loop (ι := Nat) (fun i => i ≤ 16) (fun i => [(4, vP b4 0), (5, vP b5 0), (10, vP b10 0), (36, vN i)]) (fun i => [.blk b10 78 (i64s (foldSt (mulOut e f 16) i)), .blk b5 99 (i64s (mulOut e f 16)), .blk b4 78 (i64s (List.replicate 16 0))]) (fun i => 16 - i) 0 (by omega) (Sub.cons (s := 4) rfl (Sub.cons (s := 5) rfl (Sub.cons (s := 10) rfl (Sub.cons (s := 36) rfl (Sub.nil _))))) (fun w H => St.pick H (ks := [0, 1, 2]) (by decide) rfl) ?_
    rintro i hp
    have hfo := foldSt_length (mulOut e f 16) i
    refine VC_seq ?_
    refine VC_region ?_
    refine vl_v (q_lss_n (q := 16) Try.underlying3 rfl rfl) rfl ?_
    refine vl_nil ?_
    refine (th_n ?_)
    refine VC_seq ?_
    refine VC_cond rfl (fun ht37 => ?_) (fun ht37 => ?_)
    · skip
      have ht37 := of_decide_eq_true ht37
      refine VC_skip ?_
      refine (th_n ?_)
      refine VC_seq ?_
      refine VC_block ?_
      refine VC_seq ?_
      refine VC_region ?_
      refine vl_v (q_move rfl) rfl ?_
      refine vl_v (q_assign rfl) rfl ?_
      refine vl_nil ?_
      refine (th_n ?_)
      have ht37 : i < 16 := ht37
      have hm1 := hmb i (by omega)
      have hm2 := hmb (i + 16) (by omega)
      refine VC_drawV 11 [[], [], [1], [2], [], [4], [5], [6], [7], [3, 8], [], [10, 0, 1, 2, 3, 4, 5, 6, 7, 8, 9], [11, 9, 0, 1, 2, 3, 4, 5, 6, 7, 8]] [[], [], [1], [1, 2], [], [4], [4, 5], [4, 5, 6], [4, 5, 6, 7], [1, 2, 3, 4, 5, 6, 7, 8], [], [0, 1, 2, 3, 4, 5, 6, 7, 8, 9, 10], [0, 1, 2, 3, 4, 5, 6, 7, 8, 9, 10, 11]] rfl (by kernel_rfl) ?_
      refine qv_v (q_move rfl) ?_
      refine qv_v (q_move rfl) ?_
      refine qv_v (q_idxA Try.underlying99 sz2 rfl rfl (by omega) (r := _) (by rw [Nat.mul_one, Nat.zero_add])) ?_
      refine qv_v (q_load 1 Try.underlying2 rfl rfl rfl (i64s_at (by omega))) ?_
      refine qv_v (q_move rfl) ?_
      refine qv_v (q_add_n (q := 16) rfl rfl (by omega)) ?_
      refine qv_v (q_idxA Try.underlying99 sz2 rfl rfl (by omega) (r := _) (by rw [Nat.mul_one, Nat.zero_add])) ?_
      refine qv_v (q_load 1 Try.underlying2 rfl rfl rfl (i64s_at (by omega))) ?_
      refine qv_v (q_mul_i rfl rfl (by omega) (by omega)) ?_
      refine qv_v (q_add_i rfl rfl (by omega) (by omega)) ?_
      refine qv_v (q_fldA fo78_0 (by decide) rfl rfl) ?_
      refine qv_end ?_
      refine VL.keep (Sub.cons (s := 4) rfl (Sub.cons (s := 5) rfl (Sub.cons (s := 10) rfl (Sub.cons (s := 36) rfl (Sub.cons (s := 37) rfl (Sub.cons (s := 11) rfl (Sub.cons (s := 39) rfl (Sub.cons (s := 48) rfl (Sub.cons (s := 49) rfl (Sub.nil _)))))))))) ?_
      refine vl_v (q_idxA Try.underlying76 sz2 rfl rfl (by omega) (r := _) (by rw [Nat.mul_one, Nat.zero_add])) rfl ?_
      refine l_stI 0 rfl rfl rfl sz2 (by omega) ?_
      simp only [List.set_cons_zero, List.set_cons_succ]
      refine vl_nil ?_
      refine (qn_n (bl_n (th_n ?_)))
      refine VC_region ?_
      refine vl_v (q_add_n (q := 1) rfl rfl (by omega)) rfl ?_
      refine vl_v (q_move rfl) rfl ?_
      refine vl_nil ?_
      refine (th_n ?_)
      refine ⟨i + 1, by omega, by omega, (Sub.cons (s := 4) rfl (Sub.cons (s := 5) rfl (Sub.cons (s := 10) rfl (Sub.cons (s := 36) rfl (Sub.nil _))))), fun w H => H⟩
    · skip
      have ht37 := of_decide_eq_false ht37
      obtain rfl : i = 16 := by omega
      refine VC_exit ?_
      refine (th_x (th_x (bl_xs (th_n ?_))))
      refine VC_seq ?_
      refine VC_region ?_
      refine l_callE Try.func62 rfl rfl rfl (fun w1 H1 => carry_calls (foldSt (mulOut e f 16) 16) b10 hfo (fold_bound he hf) w1 H1) rfl ?_
      refine vl_nil ?_
      refine (th_n ?_)
      refine VC_seq ?_
      refine VC_region ?_
      refine l_callE Try.func62 rfl rfl rfl (fun w1 H1 => carry_calls (carryL (foldSt (mulOut e f 16) 16)) b10 ((carryL_length _).trans hfo) (fold_bound2 he hf) w1 H1) rfl ?_
      rw [show carryL (carryL (foldSt (mulOut e f 16) 16)) = mulL e f from rfl]
      refine vl_nil ?_
      refine (th_n ?_)
      refine VC_seq ?_
      refine VC_region ?_
      refine vl_v (q_loads 0 Try.underlying78 rfl rfl rfl sz78 (by simp only [zb, zu, zw, zi, za]; omega)) rfl ?_
      refine l_storeA 2 rfl rfl rfl sz78 (by simp only [zb, zu, zw, zi, za]; omega) (by with_reducible first | exact bys_one _ | exact u32s_one _ | exact u64s_one _ | exact i64s_one _ | exact n64s_one _ | assumption) (by simp only [zs, zr, zm, za, zb, zu, zw, zi, zt, zd, zc, zn, *] <;> first | done | omega) ?_
      simp only [List.set_cons_zero, List.set_cons_succ]
      refine vl_nil ?_
      refine (th_n ?_)
      refine VC_ret ?_
      refine ⟨_, resC1 2 rfl Try.underlying78 rfl rfl rfl sz78 (by simp only [zb, zu, zw, zi, za]; omega), ?_⟩
      exact rfl
end Go.Proofs.Ytabmfndiepmcgaa
end
section
namespace Go.Proofs.Ytabmfndiepmcgaa
open Go.RowKit Go.PBYtabmfndiepmcgaa
set_option linter.unusedVariables false
set_option linter.unusedSimpArgs false
set_option maxRecDepth 10000
set_option maxHeartbeats 2000000 in
theorem less_calls (e : List Int) (he : okE e) (w : World) :
    Calls Try.prog 63 #[.agg (i64s e).toArray] w fun e' w' => e' = .returned (.tuple #[.agg (i64s (lessSt e 16).1).toArray, .bool (decide ((lessSt e 16).2 = 1))]) ∧ Kept [] w w' := by
  have hel := he.1
  have hll := lessSt_length e 16
  refine enter (n := 37) (R := fun e' L => e' = .returned (.tuple #[.agg (i64s (lessSt e 16).1).toArray, .bool (decide ((lessSt e 16).2 = 1))])) [.agg (i64s e).toArray] Try.func63 rfl rfl rfl (St.refl w) ?_ (fun e w' L' h H => ⟨h, H.kept⟩)
  refine VC_seq ?_
  refine VC_region ?_
  refine l_boxA rfl rfl ?_
  intro b1
  refine l_allocA zr78 rfl ?_
  intro b2
  refine vl_v (q_assign rfl) rfl ?_
  refine vl_nil ?_
  refine (th_n ?_)
  refine VC_seq ?_
  refine VC_region ?_
  refine l_allocA zr78 rfl ?_
  intro b4
  refine vl_nil ?_
  refine (th_n ?_)
  refine VC_seq ?_
  refine VC_region ?_
  refine vl_v (q_assign rfl) rfl ?_
  refine vl_nil ?_
  refine (th_n ?_)
  refine VC_seq ?_
  refine VC_seq ?_
  refine VC_region ?_
  refine vl_v (q_fldA fo78_0 (by decide) rfl rfl) rfl ?_
  refine vl_v (q_loads 2 Try.underlying76 rfl rfl rfl sz76 (by rw [i64s_length]; exact hel)) rfl ?_
  refine vl_v (q_move rfl) rfl ?_
  refine vl_nil ?_
  refine (th_n ?_)
  refine VC_block ?_
  refine VC_loop (ι := Nat) (fun i => i ≤ 16) (fun i => [(1, vP b1 0), (2, vP b2 0), (3, .bool false), (4, vP b4 0), (5, vI (lessSt e i).2), (10, .agg (i64s e).toArray), (11, vN i)]) (fun i => [.blk b4 78 (i64s (lessSt e i).1), .blk b2 78 (i64s (List.replicate 16 0)), .blk b1 78 (i64s e)]) (fun i => 16 - i) 0 (by omega) (Sub.cons (s := 1) rfl (Sub.cons (s := 2) rfl (Sub.cons (s := 3) rfl (Sub.cons (s := 4) rfl (Sub.cons (s := 5) rfl (Sub.cons (s := 10) rfl (Sub.cons (s := 11) rfl (Sub.nil _)))))))) (fun w H => H) ?_
  rintro i hp
  have hl := lessSt_length e i
  refine VC_seq ?_
  refine VC_region ?_
  refine vl_v (q_lss_n (q := 16) Try.underlying3 rfl rfl) rfl ?_
  refine vl_nil ?_
  refine (th_n ?_)
  refine VC_seq ?_
  refine VC_cond rfl (fun ht12 => ?_) (fun ht12 => ?_)
  · skip
    have ht12 := of_decide_eq_true ht12
    refine VC_skip ?_
    refine (th_n ?_)
    refine VC_seq ?_
    refine VC_block ?_
    refine VC_seq ?_
    have ht12 : i < 16 := ht12
    have h1 := he.all i ht12
    have hpd : 0 ≤ pD i ∧ pD i ≤ 65535 := by unfold pD; split <;> (try split) <;> omega
    have hod := lessSt_owed e i
    refine VC_region ?_
    refine vl_v (q_move rfl) rfl ?_
    refine vl_v (q_idxV (m := i) Try.underlying76 Try.underlying2 rfl sz2 rfl rfl (by omega) (i64s_atT (by omega))) rfl ?_
    refine vl_v (q_assign rfl) rfl ?_
    refine vl_v (q_assign rfl) rfl ?_
    refine vl_nil ?_
    refine (th_n ?_)
    refine VC_seq ?_
    refine VC_region ?_
    refine vl_v (q_assign rfl) rfl ?_
    refine vl_nil ?_
    refine (th_n ?_)
    refine VC_seq ?_
    refine VC_seq ?_
    refine VC_region ?_
    refine vl_v (q_move rfl) rfl ?_
    refine vl_nil ?_
    refine (th_n ?_)
    refine VC_block ?_
    refine VC_seq ?_
    refine VC_region ?_
    refine vl_v (q_eql_n (q := 0) Try.underlying3 rfl rfl) rfl ?_
    refine vl_v (q_assign rfl) rfl ?_
    refine vl_nil ?_
    refine (th_n ?_)
    refine VC_cond rfl (fun ht16 => ?_) (fun ht16 => ?_)
    · skip
      have ht16 : i = 0 := of_decide_eq_true ht16
      refine VC_region ?_
      refine vl_v (q_as (v := vI (pD i)) (q_assign rfl) (by rw [ht16]; rfl)) rfl ?_
      refine vl_nil ?_
      refine (bl_n (th_n ?_))
      refine VC_seq ?_
      refine VC_region ?_
      refine vl_v (q_move rfl) rfl ?_
      refine vl_v (q_as (v := vI (pD i)) (q_move rfl) (by rfl)) rfl ?_
      refine vl_v (q_move rfl) rfl ?_
      refine vl_v (q_add_i rfl rfl (by omega) (by omega)) rfl ?_
      refine vl_v (q_sub_i rfl rfl (by omega) (by omega)) rfl ?_
      refine vl_v (q_assign rfl) rfl ?_
      refine vl_nil ?_
      refine (th_n ?_)
      refine VC_seq ?_
      refine VC_region ?_
      refine vl_v (q_move rfl) rfl ?_
      refine vl_v (q_shr_i (m := 16) rfl rfl (by decide)) rfl ?_
      refine vl_v (q_and_i 1 (by decide) (by decide) rfl rfl) rfl ?_
      refine vl_v (q_assign rfl) rfl ?_
      refine vl_nil ?_
      refine (th_n ?_)
      refine VC_region ?_
      refine vl_v (q_move rfl) rfl ?_
      refine vl_v (q_move rfl) rfl ?_
      refine vl_v (q_and_i 16 (by decide) (by decide) rfl rfl) rfl ?_
      refine vl_v (q_fldA fo78_0 (by decide) rfl rfl) rfl ?_
      refine vl_v (q_idxA Try.underlying76 sz2 rfl rfl (by omega) (r := _) (by rw [Nat.mul_one, Nat.zero_add])) rfl ?_
      refine l_stI 0 rfl rfl rfl sz2 (by omega) ?_
      simp only [List.set_cons_zero, List.set_cons_succ]
      refine vl_nil ?_
      refine (bl_n (th_n ?_))
      refine VC_region ?_
      refine vl_v (q_add_n (q := 1) rfl rfl (by omega)) rfl ?_
      refine vl_v (q_move rfl) rfl ?_
      refine vl_nil ?_
      refine (th_n ?_)
      refine ⟨i + 1, by omega, by omega, (Sub.cons (s := 1) rfl (Sub.cons (s := 2) rfl (Sub.cons (s := 3) rfl (Sub.cons (s := 4) rfl (Sub.cons (s := 5) rfl (Sub.cons (s := 10) rfl (Sub.cons (s := 11) rfl (Sub.nil _)))))))), fun w H => H⟩
    · skip
      have ht16 : ¬ i = 0 := of_decide_eq_false ht16
      refine VC_seq ?_
      refine VC_region ?_
      refine vl_v (q_eql_n (q := 15) Try.underlying3 rfl rfl) rfl ?_
      refine vl_v (q_assign rfl) rfl ?_
      refine vl_nil ?_
      refine (th_n ?_)
      refine VC_cond rfl (fun ht18 => ?_) (fun ht18 => ?_)
      · skip
        have ht18 : i = 15 := of_decide_eq_true ht18
        refine VC_region ?_
        refine vl_v (q_as (v := vI (pD i)) (q_assign rfl) (by rw [ht18]; rfl)) rfl ?_
        refine vl_nil ?_
        refine (bl_n (th_n ?_))
        refine VC_seq ?_
        refine VC_region ?_
        refine vl_v (q_move rfl) rfl ?_
        refine vl_v (q_as (v := vI (pD i)) (q_move rfl) (by rfl)) rfl ?_
        refine vl_v (q_move rfl) rfl ?_
        refine vl_v (q_add_i rfl rfl (by omega) (by omega)) rfl ?_
        refine vl_v (q_sub_i rfl rfl (by omega) (by omega)) rfl ?_
        refine vl_v (q_assign rfl) rfl ?_
        refine vl_nil ?_
        refine (th_n ?_)
        refine VC_seq ?_
        refine VC_region ?_
        refine vl_v (q_move rfl) rfl ?_
        refine vl_v (q_shr_i (m := 16) rfl rfl (by decide)) rfl ?_
        refine vl_v (q_and_i 1 (by decide) (by decide) rfl rfl) rfl ?_
        refine vl_v (q_assign rfl) rfl ?_
        refine vl_nil ?_
        refine (th_n ?_)
        refine VC_region ?_
        refine vl_v (q_move rfl) rfl ?_
        refine vl_v (q_move rfl) rfl ?_
        refine vl_v (q_and_i 16 (by decide) (by decide) rfl rfl) rfl ?_
        refine vl_v (q_fldA fo78_0 (by decide) rfl rfl) rfl ?_
        refine vl_v (q_idxA Try.underlying76 sz2 rfl rfl (by omega) (r := _) (by rw [Nat.mul_one, Nat.zero_add])) rfl ?_
        refine l_stI 0 rfl rfl rfl sz2 (by omega) ?_
        simp only [List.set_cons_zero, List.set_cons_succ]
        refine vl_nil ?_
        refine (bl_n (th_n ?_))
        refine VC_region ?_
        refine vl_v (q_add_n (q := 1) rfl rfl (by omega)) rfl ?_
        refine vl_v (q_move rfl) rfl ?_
        refine vl_nil ?_
        refine (th_n ?_)
        refine ⟨i + 1, by omega, by omega, (Sub.cons (s := 1) rfl (Sub.cons (s := 2) rfl (Sub.cons (s := 3) rfl (Sub.cons (s := 4) rfl (Sub.cons (s := 5) rfl (Sub.cons (s := 10) rfl (Sub.cons (s := 11) rfl (Sub.nil _)))))))), fun w H => H⟩
      · skip
        have ht18 : ¬ i = 15 := of_decide_eq_false ht18
        refine VC_skip ?_
        refine (bl_n (th_n ?_))
        refine VC_seq ?_
        refine VC_region ?_
        refine vl_v (q_move rfl) rfl ?_
        refine vl_v (q_as (v := vI (pD i)) (q_move rfl) (by unfold pD; rw [if_neg ht16, if_neg ht18])) rfl ?_
        refine vl_v (q_move rfl) rfl ?_
        refine vl_v (q_add_i rfl rfl (by omega) (by omega)) rfl ?_
        refine vl_v (q_sub_i rfl rfl (by omega) (by omega)) rfl ?_
        refine vl_v (q_assign rfl) rfl ?_
        refine vl_nil ?_
        refine (th_n ?_)
        refine VC_seq ?_
        refine VC_region ?_
        refine vl_v (q_move rfl) rfl ?_
        refine vl_v (q_shr_i (m := 16) rfl rfl (by decide)) rfl ?_
        refine vl_v (q_and_i 1 (by decide) (by decide) rfl rfl) rfl ?_
        refine vl_v (q_assign rfl) rfl ?_
        refine vl_nil ?_
        refine (th_n ?_)
        refine VC_region ?_
        refine vl_v (q_move rfl) rfl ?_
        refine vl_v (q_move rfl) rfl ?_
        refine vl_v (q_and_i 16 (by decide) (by decide) rfl rfl) rfl ?_
        refine vl_v (q_fldA fo78_0 (by decide) rfl rfl) rfl ?_
        refine vl_v (q_idxA Try.underlying76 sz2 rfl rfl (by omega) (r := _) (by rw [Nat.mul_one, Nat.zero_add])) rfl ?_
        refine l_stI 0 rfl rfl rfl sz2 (by omega) ?_
        simp only [List.set_cons_zero, List.set_cons_succ]
        refine vl_nil ?_
        refine (bl_n (th_n ?_))
        refine VC_region ?_
        refine vl_v (q_add_n (q := 1) rfl rfl (by omega)) rfl ?_
        refine vl_v (q_move rfl) rfl ?_
        refine vl_nil ?_
        refine (th_n ?_)
        refine ⟨i + 1, by omega, by omega, (Sub.cons (s := 1) rfl (Sub.cons (s := 2) rfl (Sub.cons (s := 3) rfl (Sub.cons (s := 4) rfl (Sub.cons (s := 5) rfl (Sub.cons (s := 10) rfl (Sub.cons (s := 11) rfl (Sub.nil _)))))))), fun w H => H⟩
  · skip
    have ht12 := of_decide_eq_false ht12
    obtain rfl : i = 16 := by omega
    refine VC_exit ?_
    refine (th_x (th_x (bl_xs (th_n ?_))))
    refine VC_seq ?_
    refine VC_region ?_
    refine vl_v (q_loads 0 Try.underlying78 rfl rfl rfl sz78 (by simp only [zb, zu, zw, zi, za]; omega)) rfl ?_
    refine vl_v (q_move rfl) rfl ?_
    refine vl_v (q_eql_k Try.underlying2 rfl rfl) rfl ?_
    refine l_storeA 1 rfl rfl rfl sz78 (by simp only [zb, zu, zw, zi, za]; omega) (by with_reducible first | exact bys_one _ | exact u32s_one _ | exact u64s_one _ | exact i64s_one _ | exact n64s_one _ | assumption) (by simp only [zs, zr, zm, za, zb, zu, zw, zi, zt, zd, zc, zn, *] <;> first | done | omega) ?_
    simp only [List.set_cons_zero, List.set_cons_succ]
    refine vl_v (q_assign rfl) rfl ?_
    refine vl_nil ?_
    refine (th_n ?_)
    refine VC_ret ?_
    refine ⟨_, resC2 1 rfl Try.underlying78 rfl rfl rfl sz78 (by simp only [zb, zu, zw, zi, za]; omega) rfl, ?_⟩
    exact rfl
theorem dig_okE {e : List Int} (h : dig e) : okE e := ⟨h.1, by have := h.2 0 (by omega); omega, fun j _ hj => h.2 j hj⟩
set_option maxHeartbeats 2000000 in
theorem key_calls (v : List Int) (hv : okE v) (w : World) :
    Calls Try.prog 51 #[.agg (i64s v).toArray] w fun e' w' => e' = .returned (.agg (bys (keyL v)).toArray) ∧ Kept [] w w' := by
  have hvl := hv.1
  have hkl := keyL_length v
  have hd := (carry3 hv).1
  have hs2 := (subN_dig hd 2).1
  refine enter (n := 43) (R := fun e' L => e' = .returned (.agg (bys (keyL v)).toArray)) [.agg (i64s v).toArray] Try.func51 rfl rfl rfl (St.refl w) ?_ (fun e w' L' h H => ⟨h, H.kept⟩)
  refine VC_seq ?_
  refine VC_region ?_
  refine l_boxA rfl rfl ?_
  intro b1
  refine l_allocA zr23 rfl ?_
  intro b2
  refine vl_nil ?_
  refine (th_n ?_)
  refine VC_seq ?_
  refine VC_seq ?_
  refine VC_region ?_
  refine vl_v (q_move rfl) rfl ?_
  refine vl_nil ?_
  refine (th_n ?_)
  refine VC_block ?_
  refine VC_loop (ι := Nat) (fun i => i ≤ 3) (fun i => [(1, vP b1 0), (2, vP b2 0), (8, vN i)]) (fun i => [.blk b1 78 (i64s (carryN v i)), .blk b2 23 (bys (List.replicate 32 0))]) (fun i => 3 - i) 0 (by omega) (Sub.cons (s := 1) rfl (Sub.cons (s := 2) rfl (Sub.cons (s := 8) rfl (Sub.nil _)))) (fun w H => St.pick H (ks := [1, 0]) (by decide) rfl) ?_
  rintro i hp
  refine VC_seq ?_
  refine VC_region ?_
  refine vl_v (q_lss_n (q := 3) Try.underlying3 rfl rfl) rfl ?_
  refine vl_nil ?_
  refine (th_n ?_)
  refine VC_seq ?_
  refine VC_cond rfl (fun ht9 => ?_) (fun ht9 => ?_)
  · skip
    have ht9 := of_decide_eq_true ht9
    refine VC_skip ?_
    refine (th_n ?_)
    refine VC_seq ?_
    refine VC_block ?_
    refine VC_region ?_
    refine l_callE Try.func62 rfl rfl rfl (fun w1 H1 => carry_calls (carryN v i) b1 (carryN_okE hv i).1 (fun j hj => by have := (carryN_okE hv i).all j hj; omega) w1 H1) rfl ?_
    refine vl_nil ?_
    refine (bl_n (th_n ?_))
    refine VC_region ?_
    refine vl_v (q_add_n (q := 1) rfl rfl (by omega)) rfl ?_
    refine vl_v (q_move rfl) rfl ?_
    refine vl_nil ?_
    refine (th_n ?_)
    refine ⟨i + 1, by omega, by omega, (Sub.cons (s := 1) rfl (Sub.cons (s := 2) rfl (Sub.cons (s := 8) rfl (Sub.nil _)))), fun w H => H⟩
  · skip
    have ht9 := of_decide_eq_false ht9
    obtain rfl : i = 3 := by omega
    obtain ⟨a, ha⟩ : ∃ a, a = carryN v 3 := ⟨_, rfl⟩
    rw [← ha] at hd hs2
    rw [← ha]
    refine VC_exit ?_
    refine (th_x (th_x (bl_xs (th_n ?_))))
    refine VC_seq ?_
    refine VC_seq ?_
    refine VC_region ?_
    refine vl_v (q_move rfl) rfl ?_
    refine vl_nil ?_
    refine (th_n ?_)
    refine VC_block ?_
    refine VC_loop (ι := Nat) (fun i => i ≤ 2) (fun i => [(1, vP b1 0), (2, vP b2 0), (12, vN i)]) (fun i => [.blk b1 78 (i64s (subN a i)), .blk b2 23 (bys (List.replicate 32 0))]) (fun i => 2 - i) 0 (by omega) (Sub.cons (s := 1) rfl (Sub.cons (s := 2) rfl (Sub.cons (s := 12) rfl (Sub.nil _)))) (fun w H => H) ?_
    rintro i hp
    have hsd := subN_dig hd i
    have hsl := hsd.1
    have hll := lessSt_length (subN a i) 16
    refine VC_seq ?_
    refine VC_region ?_
    refine vl_v (q_lss_n (q := 2) Try.underlying3 rfl rfl) rfl ?_
    refine vl_nil ?_
    refine (th_n ?_)
    refine VC_seq ?_
    refine VC_cond rfl (fun ht13 => ?_) (fun ht13 => ?_)
    · skip
      have ht13 := of_decide_eq_true ht13
      refine VC_skip ?_
      refine (th_n ?_)
      refine VC_seq ?_
      refine VC_block ?_
      refine VC_seq ?_
      refine VC_region ?_
      refine vl_v (q_loads 0 Try.underlying78 rfl rfl rfl sz78 (by simp only [zb, zu, zw, zi, za]; omega)) rfl ?_
      refine vl_v (q_callV Try.func63 rfl rfl rfl (fun w1 H1 => less_calls (subN a i) (dig_okE hsd) w1)) rfl ?_
      refine vl_v (q_move rfl) rfl ?_
      refine vl_v (q_ext rfl rfl) rfl ?_
      refine vl_v (q_ext rfl rfl) rfl ?_
      refine l_allocA zr78 rfl ?_
      intro b3
      refine l_storeA 0 rfl rfl rfl sz78 (by simp only [zb, zu, zw, zi, za]; omega) (by with_reducible first | exact bys_one _ | exact u32s_one _ | exact u64s_one _ | exact i64s_one _ | exact n64s_one _ | assumption) (by simp only [zs, zr, zm, za, zb, zu, zw, zi, zt, zd, zc, zn, *] <;> first | done | omega) ?_
      simp only [List.set_cons_zero, List.set_cons_succ]
      refine vl_v (q_assign rfl) rfl ?_
      refine vl_nil ?_
      refine (th_n ?_)
      refine VC_seq ?_
      refine VC_region ?_
      refine vl_v (q_move rfl) rfl ?_
      refine vl_v (q_as (v := .bool (decide (¬ (lessSt (subN a i) 16).2 = 1))) (q_not rfl) (by simp)) rfl ?_
      refine vl_nil ?_
      refine (th_n ?_)
      refine VC_cond rfl (fun ht20 => ?_) (fun ht20 => ?_)
      · skip
        have ht20 := of_decide_eq_true ht20
        rw [show (lessSt (subN a i) 16).1 = subN a (i + 1) from (if_neg ht20).symm] at hll ⊢
        refine VC_region ?_
        refine vl_v (q_loads 0 Try.underlying78 rfl rfl rfl sz78 (by simp only [zb, zu, zw, zi, za]; omega)) rfl ?_
        refine l_storeA 1 rfl rfl rfl sz78 (by simp only [zb, zu, zw, zi, za]; omega) (by with_reducible first | exact bys_one _ | exact u32s_one _ | exact u64s_one _ | exact i64s_one _ | exact n64s_one _ | assumption) (by simp only [zb, zu, zw, zi, za]; omega) ?_
        simp only [List.set_cons_zero, List.set_cons_succ]
        refine vl_nil ?_
        refine (bl_n (th_n ?_))
        refine VC_region ?_
        refine vl_v (q_add_n (q := 1) rfl rfl (by omega)) rfl ?_
        refine vl_v (q_move rfl) rfl ?_
        refine vl_nil ?_
        refine (th_n ?_)
        refine ⟨i + 1, by omega, by omega, (Sub.cons (s := 1) rfl (Sub.cons (s := 2) rfl (Sub.cons (s := 12) rfl (Sub.nil _)))), fun w H => St.pick H (ks := [1, 2]) (by decide) rfl⟩
      · skip
        have ht20 := of_decide_eq_false ht20
        have ht20 := Decidable.not_not.1 ht20
        rw [show subN a i = subN a (i + 1) from (if_pos ht20).symm] at hsl ⊢
        refine VC_skip ?_
        refine (bl_n (th_n ?_))
        refine VC_region ?_
        refine vl_v (q_add_n (q := 1) rfl rfl (by omega)) rfl ?_
        refine vl_v (q_move rfl) rfl ?_
        refine vl_nil ?_
        refine (th_n ?_)
        refine ⟨i + 1, by omega, by omega, (Sub.cons (s := 1) rfl (Sub.cons (s := 2) rfl (Sub.cons (s := 12) rfl (Sub.nil _)))), fun w H => St.pick H (ks := [1, 2]) (by decide) rfl⟩
    · skip
      have ht13 := of_decide_eq_false ht13
      obtain rfl : i = 2 := by omega
      refine VC_exit ?_
      refine (th_x (th_x (bl_xs (th_n ?_))))
      refine VC_seq ?_
      refine VC_region ?_
      refine l_allocA zr23 rfl ?_
      intro b5
      refine vl_nil ?_
      refine (th_n ?_)
      refine VC_seq ?_
      refine VC_seq ?_
      refine VC_region ?_
      refine vl_v (q_fldA fo78_0 (by decide) rfl rfl) rfl ?_
      refine vl_v (q_loads 1 Try.underlying76 rfl rfl rfl sz76 (by rw [i64s_length]; exact hs2)) rfl ?_
      refine vl_v (q_move rfl) rfl ?_
      refine vl_nil ?_
      refine (th_n ?_)
      refine VC_block ?_
      refine VC_loop (ι := Nat) (fun i => i ≤ 16) (fun i => [(2, vP b2 0), (5, vP b5 0), (24, .agg (i64s (subN a 2)).toArray), (25, vN i)]) (fun i => [.blk b5 23 (bys (keySt (subN a 2) i)), .blk b2 23 (bys (List.replicate 32 0))]) (fun i => 16 - i) 0 (by omega) (Sub.cons (s := 2) rfl (Sub.cons (s := 5) rfl (Sub.cons (s := 24) rfl (Sub.cons (s := 25) rfl (Sub.nil _))))) (fun w H => St.pick H (ks := [0, 2]) (by decide) rfl) ?_
      rintro i hp
      have hkl2 := keySt_length (subN a 2) i
      refine VC_seq ?_
      refine VC_region ?_
      refine vl_v (q_lss_n (q := 16) Try.underlying3 rfl rfl) rfl ?_
      refine vl_nil ?_
      refine (th_n ?_)
      refine VC_seq ?_
      refine VC_cond rfl (fun ht26 => ?_) (fun ht26 => ?_)
      · skip
        have ht26 := of_decide_eq_true ht26
        refine VC_skip ?_
        refine (th_n ?_)
        refine VC_seq ?_
        refine VC_block ?_
        refine VC_seq ?_
        have ht26 : i < 16 := ht26
        have hl3 : ((keySt (subN a 2) i).set (2 * i) (UInt8.ofNat ((subN a 2).getD i 0 % 256).toNat)).length = 32 := by rw [List.length_set, hkl2]
        refine VC_region ?_
        refine vl_v (q_move rfl) rfl ?_
        refine vl_v (q_idxV (m := i) Try.underlying76 Try.underlying2 rfl sz2 rfl rfl (by omega) (i64s_atT (by omega))) rfl ?_
        refine vl_v (q_assign rfl) rfl ?_
        refine vl_v (q_assign rfl) rfl ?_
        refine vl_nil ?_
        refine (th_n ?_)
        refine VC_region ?_
        refine vl_v (q_move rfl) rfl ?_
        refine vl_v (q_mul_n (p := 2) rfl rfl (by omega)) rfl ?_
        refine vl_v (q_move rfl) rfl ?_
        refine vl_v (q_mul_n (p := 2) rfl rfl (by omega)) rfl ?_
        refine vl_v (q_add_n (q := 1) rfl rfl (by omega)) rfl ?_
        refine vl_v (q_move rfl) rfl ?_
        refine vl_v (q_conv_ib Try.underlying2 Try.underlying5 rfl) rfl ?_
        refine vl_v (q_move rfl) rfl ?_
        refine vl_v (q_shr_i (m := 8) rfl rfl (by decide)) rfl ?_
        refine vl_v (q_conv_ib Try.underlying2 Try.underlying5 rfl) rfl ?_
        refine vl_v (q_idxA Try.underlying23 sz5 rfl rfl (by omega) (r := _) (by rw [Nat.mul_one, Nat.zero_add])) rfl ?_
        refine l_stB 0 rfl rfl rfl sz5 (by omega) ?_
        simp only [List.set_cons_zero, List.set_cons_succ]
        refine vl_v (q_idxA Try.underlying23 sz5 rfl rfl (by omega) (r := _) (by rw [Nat.mul_one, Nat.zero_add])) rfl ?_
        refine l_stB 0 rfl rfl rfl sz5 (by omega) ?_
        simp only [List.set_cons_zero, List.set_cons_succ]
        refine vl_nil ?_
        refine (bl_n (th_n ?_))
        refine VC_region ?_
        refine vl_v (q_add_n (q := 1) rfl rfl (by omega)) rfl ?_
        refine vl_v (q_move rfl) rfl ?_
        refine vl_nil ?_
        refine (th_n ?_)
        refine ⟨i + 1, by omega, by omega, (Sub.cons (s := 2) rfl (Sub.cons (s := 5) rfl (Sub.cons (s := 24) rfl (Sub.cons (s := 25) rfl (Sub.nil _))))), fun w H => H⟩
      · skip
        have ht26 := of_decide_eq_false ht26
        obtain rfl : i = 16 := by omega
        rw [show keySt (subN a 2) 16 = keyL v by rw [keyL, ha]]
        refine VC_exit ?_
        refine (th_x (th_x (bl_xs (th_n ?_))))
        refine VC_seq ?_
        refine VC_region ?_
        refine vl_v (q_loads 0 Try.underlying23 rfl rfl rfl sz23 (by simp only [zb, zu, zw, zi, za]; omega)) rfl ?_
        refine l_storeA 1 rfl rfl rfl sz23 (by simp only [zb, zu, zw, zi, za]; omega) (by with_reducible first | exact bys_one _ | exact u32s_one _ | exact u64s_one _ | exact i64s_one _ | exact n64s_one _ | assumption) (by simp only [zs, zr, zm, za, zb, zu, zw, zi, zt, zd, zc, zn, *] <;> first | done | omega) ?_
        simp only [List.set_cons_zero, List.set_cons_succ]
        refine vl_nil ?_
        refine (th_n ?_)
        refine VC_ret ?_
        refine ⟨_, resC1 1 rfl Try.underlying23 rfl rfl rfl sz23 (by simp only [zb, zu, zw, zi, za]; omega), ?_⟩
        exact rfl
theorem invSt_no (e : List Int) (k : Nat) (h : ¬ (253 - k = 2 ∨ 253 - k = 4)) : mulL (mulL (invSt e k) (invSt e k)) e = invSt e (k + 1) := by
  conv => rhs; unfold invSt
  exact (if_neg h).symm
theorem invSt_yes (e : List Int) (k : Nat) (h : 253 - k = 2 ∨ 253 - k = 4) : mulL (invSt e k) (invSt e k) = invSt e (k + 1) := by
  conv => rhs; unfold invSt
  exact (if_pos h).symm
set_option maxHeartbeats 2000000 in
theorem inv_calls (e : List Int) (he : okE e) (w : World) :
    Calls Try.prog 50 #[.agg (i64s e).toArray] w fun e' w' => e' = .returned (.agg (i64s (invL e)).toArray) ∧ Kept [] w w' := by
  have hel := he.1
  have hil := (invL_okE he).1
  refine enter (n := 23) (R := fun e' L => e' = .returned (.agg (i64s (invL e)).toArray)) [.agg (i64s e).toArray] Try.func50 rfl rfl rfl (St.refl w) ?_ (fun e w' L' h H => ⟨h, H.kept⟩)
  refine VC_seq ?_
  refine VC_region ?_
  refine l_boxA rfl rfl ?_
  intro b1
  refine l_allocA zr78 rfl ?_
  intro b2
  refine vl_nil ?_
  refine (th_n ?_)
  refine VC_seq ?_
  refine VC_region ?_
  refine vl_v (q_loads 1 Try.underlying78 rfl rfl rfl sz78 (by simp only [zb, zu, zw, zi, za]; omega)) rfl ?_
  refine l_allocA zr78 rfl ?_
  intro b3
  refine l_storeA 0 rfl rfl rfl sz78 (by simp only [zb, zu, zw, zi, za]; omega) (by with_reducible first | exact bys_one _ | exact u32s_one _ | exact u64s_one _ | exact i64s_one _ | exact n64s_one _ | assumption) (by simp only [zs, zr, zm, za, zb, zu, zw, zi, zt, zd, zc, zn, *] <;> first | done | omega) ?_
  simp only [List.set_cons_zero, List.set_cons_succ]
  refine vl_nil ?_
  refine (th_n ?_)
  refine VC_seq ?_
  refine VC_seq ?_
  refine VC_region ?_
  refine vl_v (q_assign rfl) rfl ?_
  refine vl_nil ?_
  refine (th_n ?_)
  refine VC_block ?_
  refine VC_loop (ι := Nat) (fun k => k ≤ 254) (fun k => [(1, vP b1 0), (2, vP b2 0), (3, vP b3 0), (4, vI (253 - (k : Int)))]) (fun k => [.blk b3 78 (i64s (invSt e k)), .blk b2 78 (i64s (List.replicate 16 0)), .blk b1 78 (i64s e)]) (fun k => 254 - k) 0 (by omega) (Sub.cons (s := 1) rfl (Sub.cons (s := 2) rfl (Sub.cons (s := 3) rfl (Sub.cons (s := 4) rfl (Sub.nil _))))) (fun w H => H) ?_
  rintro k hp
  have hok := invSt_okE he k
  have hkl := hok.1
  have hk2 := mulL_okE hok hok
  have hk2l := hk2.1
  have hk3l := (mulL_okE hk2 he).1
  refine VC_seq ?_
  refine VC_seq ?_
  refine VC_region ?_
  refine vl_v (q_move rfl) rfl ?_
  refine vl_v (q_geq_k (q := 0) Try.underlying3 rfl rfl) rfl ?_
  refine vl_nil ?_
  refine (th_n ?_)
  refine VC_cond rfl (fun ht7 => ?_) (fun ht7 => ?_)
  · skip
    have ht7 := of_decide_eq_true ht7
    refine VC_skip ?_
    refine (th_n ?_)
    refine VC_seq ?_
    refine VC_block ?_
    refine VC_seq ?_
    refine VC_region ?_
    refine vl_v (q_loads 0 Try.underlying78 rfl rfl rfl sz78 (by simp only [zb, zu, zw, zi, za]; omega)) rfl ?_
    refine vl_v (q_loads 0 Try.underlying78 rfl rfl rfl sz78 (by simp only [zb, zu, zw, zi, za]; omega)) rfl ?_
    refine vl_v (q_callV Try.func49 rfl rfl rfl (fun w1 H1 => mul_calls (invSt e k) (invSt e k) hok hok w1)) rfl ?_
    refine l_storeA 0 rfl rfl rfl sz78 (by simp only [zb, zu, zw, zi, za]; omega) (by with_reducible first | exact bys_one _ | exact u32s_one _ | exact u64s_one _ | exact i64s_one _ | exact n64s_one _ | assumption) (by simp only [zb, zu, zw, zi, za]; omega) ?_
    simp only [List.set_cons_zero, List.set_cons_succ]
    refine vl_nil ?_
    refine (th_n ?_)
    refine VC_seq ?_
    refine VC_region ?_
    refine vl_v (q_move rfl) rfl ?_
    refine vl_v (q_as (v := .bool (decide (¬ k = 251))) (q_neq_k (q := 2) Try.underlying3 rfl rfl) (by rw [show (!decide ((253 : Int) - (k : Int) = 2)) = decide (¬ k = 251) by rw [Bool.eq_iff_iff]; simp; omega])) rfl ?_
    by_cases hs14 : ¬ k = 251
    · skip
      rw [show decide (¬ k = 251) = true from decide_eq_true hs14]
      refine vl_v (q_move rfl) rfl ?_
      refine vl_vg rfl (q_move rfl) rfl ?_
      refine vl_vg rfl (q_as (v := .bool (decide (¬ k = 249))) (q_neq_k (q := 4) Try.underlying3 rfl rfl) (by rw [show (!decide ((253 : Int) - (k : Int) = 4)) = decide (¬ k = 249) by rw [Bool.eq_iff_iff]; simp; omega])) rfl ?_
      by_cases hs17 : ¬ k = 249
      · skip
        rw [show decide (¬ k = 249) = true from decide_eq_true hs17]
        refine vl_v (q_pickT rfl rfl) rfl ?_
        refine vl_nil ?_
        refine (th_n ?_)
        refine VC_yes (rfl) ?_
        refine VC_region ?_
        refine vl_v (q_loads 0 Try.underlying78 rfl rfl rfl sz78 (by simp only [zb, zu, zw, zi, za]; omega)) rfl ?_
        refine vl_v (q_loads 2 Try.underlying78 rfl rfl rfl sz78 (by simp only [zb, zu, zw, zi, za]; omega)) rfl ?_
        refine vl_v (q_callV Try.func49 rfl rfl rfl (fun w1 H1 => mul_calls (mulL (invSt e k) (invSt e k)) e hk2 he w1)) rfl ?_
        refine l_storeA 0 rfl rfl rfl sz78 (by simp only [zb, zu, zw, zi, za]; omega) (by with_reducible first | exact bys_one _ | exact u32s_one _ | exact u64s_one _ | exact i64s_one _ | exact n64s_one _ | assumption) (by simp only [zb, zu, zw, zi, za]; omega) ?_
        simp only [List.set_cons_zero, List.set_cons_succ]
        refine vl_nil ?_
        refine (bl_n (th_n ?_))
        refine VC_region ?_
        refine vl_v (q_move rfl) rfl ?_
        refine vl_v (q_sub_i rfl rfl (by omega) (by omega)) rfl ?_
        refine vl_v (q_assign rfl) rfl ?_
        refine vl_nil ?_
        refine (th_n ?_)
        first | rw [invSt_no e k (by omega)] | rw [invSt_yes e k (by omega)]
        refine ⟨k + 1, by omega, by omega, (Sub.cons (s := 1) rfl (Sub.cons (s := 2) rfl (Sub.cons (s := 3) rfl (Sub.cons (s := 4) (congrArg (fun x : Int => some (vI x)) (show (253 - (k : Int) - 1 : Int) = 253 - ((k + 1 : Nat) : Int) by omega)) (Sub.nil _))))), fun w H => H⟩
      · skip
        rw [show decide (¬ k = 249) = false from decide_eq_false hs17]
        refine vl_v (q_pickT rfl rfl) rfl ?_
        refine vl_nil ?_
        refine (th_n ?_)
        refine VC_no (rfl) ?_
        refine VC_skip ?_
        refine (bl_n (th_n ?_))
        refine VC_region ?_
        refine vl_v (q_move rfl) rfl ?_
        refine vl_v (q_sub_i rfl rfl (by omega) (by omega)) rfl ?_
        refine vl_v (q_assign rfl) rfl ?_
        refine vl_nil ?_
        refine (th_n ?_)
        first | rw [invSt_no e k (by omega)] | rw [invSt_yes e k (by omega)]
        refine ⟨k + 1, by omega, by omega, (Sub.cons (s := 1) rfl (Sub.cons (s := 2) rfl (Sub.cons (s := 3) rfl (Sub.cons (s := 4) (congrArg (fun x : Int => some (vI x)) (show (253 - (k : Int) - 1 : Int) = 253 - ((k + 1 : Nat) : Int) by omega)) (Sub.nil _))))), fun w H => H⟩
    · skip
      rw [show decide (¬ k = 251) = false from decide_eq_false hs14]
      refine vl_v (q_move rfl) rfl ?_
      refine vl_skip rfl rfl ?_
      refine vl_skip rfl rfl ?_
      refine vl_v (q_pickF rfl rfl) rfl ?_
      refine vl_nil ?_
      refine (th_n ?_)
      refine VC_no (rfl) ?_
      refine VC_skip ?_
      refine (bl_n (th_n ?_))
      refine VC_region ?_
      refine vl_v (q_move rfl) rfl ?_
      refine vl_v (q_sub_i rfl rfl (by omega) (by omega)) rfl ?_
      refine vl_v (q_assign rfl) rfl ?_
      refine vl_nil ?_
      refine (th_n ?_)
      first | rw [invSt_no e k (by omega)] | rw [invSt_yes e k (by omega)]
      refine ⟨k + 1, by omega, by omega, (Sub.cons (s := 1) rfl (Sub.cons (s := 2) rfl (Sub.cons (s := 3) rfl (Sub.cons (s := 4) (congrArg (fun x : Int => some (vI x)) (show (253 - (k : Int) - 1 : Int) = 253 - ((k + 1 : Nat) : Int) by omega)) (Sub.nil _))))), fun w H => H⟩
  · skip
    have ht7 := of_decide_eq_false ht7
    obtain rfl : k = 254 := by omega
    rw [show invSt e 254 = invL e from rfl]
    refine VC_exit ?_
    refine (th_x (th_x (bl_xs (th_n ?_))))
    refine VC_seq ?_
    refine VC_region ?_
    refine vl_v (q_loads 0 Try.underlying78 rfl rfl rfl sz78 (by simp only [zb, zu, zw, zi, za]; omega)) rfl ?_
    refine l_storeA 1 rfl rfl rfl sz78 (by simp only [zb, zu, zw, zi, za]; omega) (by with_reducible first | exact bys_one _ | exact u32s_one _ | exact u64s_one _ | exact i64s_one _ | exact n64s_one _ | assumption) (by simp only [zs, zr, zm, za, zb, zu, zw, zi, zt, zd, zc, zn, *] <;> first | done | omega) ?_
    simp only [List.set_cons_zero, List.set_cons_succ]
    refine vl_nil ?_
    refine (th_n ?_)
    refine VC_ret ?_
    refine ⟨_, resC1 1 rfl Try.underlying78 rfl rfl rfl sz78 (by simp only [zb, zu, zw, zi, za]; omega), ?_⟩
    exact rfl
end Go.Proofs.Ytabmfndiepmcgaa
end
section
namespace Go.PBYtabmfndiepmcgaa
open Go Go.RowKit
set_option linter.unusedVariables false
def cz (n : List Nat) : List Int := n.map fun (x : Nat) => (x : Int)
theorem cz_length (n : List Nat) : (cz n).length = n.length := by simp [cz]
theorem cz_get (n : List Nat) (j : Nat) : (cz n).getD j 0 = ((n.getD j 0 : Nat) : Int) := by
  unfold cz
  rw [List.getD_eq_getElem?_getD, List.getElem?_map, List.getD_eq_getElem?_getD]
  cases n[j]? <;> rfl
theorem cz_set (n : List Nat) (j x : Nat) : cz (n.set j x) = (cz n).set j (x : Int) := by simp [cz, List.map_set]
theorem cz_rep (m : Nat) : cz (List.replicate m 0) = List.replicate m 0 := by simp [cz]
theorem ext16 {a b : List Int} {m : Nat} (ha : a.length = m) (hb : b.length = m) (h : ∀ j, j < m → a.getD j 0 = b.getD j 0) : a = b := by
  apply List.ext_getElem (ha.trans hb.symm)
  intro j h1 h2
  have := h j (ha ▸ h1)
  simpa [h1, h2] using this
/-- digits -/
def digN (n : List Nat) : Prop := n.length = 16 ∧ ∀ j, j < 16 → n.getD j 0 ≤ 65535
theorem digN.dig {n : List Nat} (h : digN n) : dig (cz n) := ⟨(cz_length n).trans h.1, fun j hj => by rw [cz_get]; have := h.2 j hj; omega⟩
theorem dig_okE {e : List Int} (h : dig e) : okE e := ⟨h.1, by have := h.2 0 (by omega); omega, fun j _ hj => h.2 j hj⟩
theorem digN.okE {n : List Nat} (h : digN n) : okE (cz n) := dig_okE h.dig
theorem digN_of {n : List Nat} (h : dig (cz n)) : digN n := ⟨(cz_length n).symm.trans h.1, fun j hj => by have := h.2 j hj; rw [cz_get] at this; omega⟩
/-! ### the number of bytes -/
def rofSt (k : List UInt8) : Nat → List Nat
  | 0 => List.replicate 16 0
  | i + 1 => (rofSt k i).set i ((k.getD (2 * i) 0).toNat + 256 * (k.getD (2 * i + 1) 0).toNat)
def rofL (k : List UInt8) : List Nat := (rofSt k 16).set 15 ((rofSt k 16).getD 15 0 % 32768)
theorem rofSt_length (k : List UInt8) : ∀ i, (rofSt k i).length = 16
  | 0 => rfl
  | i + 1 => by rw [rofSt, List.length_set, rofSt_length]
theorem cz_rofSt (k : List UInt8) : ∀ i, cz (rofSt k i) = ofSt k i
  | 0 => by rw [rofSt, cz_rep]; rfl
  | i + 1 => by rw [rofSt, cz_set, cz_rofSt k i]; rfl
theorem cz_rofL (k : List UInt8) : cz (rofL k) = ofL k := by
  have h := cz_get (rofSt k 16) 15
  rw [cz_rofSt] at h
  have e : (((rofSt k 16).getD 15 0 % 32768 : Nat) : Int) = (ofSt k 16).getD 15 0 % 2 ^ 15 := by rw [h]; omega
  rw [rofL, cz_set, cz_rofSt, ofL, e]
theorem rofL_dig {k : List UInt8} (hk : k.length = 32) : digN (rofL k) := digN_of (by rw [cz_rofL]; exact ofL_dig hk)
/-! ### carrying -/
def rrSt (n : List Nat) : Nat → List Nat × Nat
  | 0 => (n, 0)
  | i + 1 => ((rrSt n i).1.set i (((rrSt n i).1.getD i 0 + (rrSt n i).2) % 65536), ((rrSt n i).1.getD i 0 + (rrSt n i).2) / 65536)
def rround (n : List Nat) : List Nat := (rrSt n 16).1.set 0 ((rrSt n 16).1.getD 0 0 + 38 * (rrSt n 16).2)
def rN (n : List Nat) : Nat → List Nat
  | 0 => n
  | i + 1 => rround (rN n i)
theorem rrSt_length (n : List Nat) : ∀ i, (rrSt n i).1.length = n.length
  | 0 => rfl
  | i + 1 => by rw [rrSt, List.length_set, rrSt_length]
theorem rround_length (n : List Nat) : (rround n).length = n.length := by rw [rround, List.length_set, rrSt_length]
theorem rrSt_get {n : List Nat} (hn : n.length = 16) : ∀ i, i ≤ 16 → (((rrSt n i).2 : Nat) : Int) = cOut (cz n) i ∧ ∀ j, j < 16 → (((rrSt n i).1.getD j 0 : Nat) : Int) = if j < i then ((cz n).getD j 0 + cOut (cz n) j) % 65536 else (cz n).getD j 0
  | 0, _ => ⟨rfl, fun j hj => by rw [if_neg (by omega), cz_get]; rfl⟩
  | i + 1, hi => by
    obtain ⟨h1, h2⟩ := rrSt_get hn i (by omega)
    have hii := h2 i (by omega)
    rw [if_neg (by omega)] at hii
    refine ⟨?_, fun j hj => ?_⟩
    · show (((rrSt n i).1.getD i 0 + (rrSt n i).2) / 65536 : Nat) = ((cz n).getD i 0 + cOut (cz n) i) / 65536
      rw [← h1, ← hii]
      omega
    · show ((((rrSt n i).1.set i (((rrSt n i).1.getD i 0 + (rrSt n i).2) % 65536)).getD j 0 : Nat) : Int) = _
      rw [getD_set _ _ _ _ _ (by rw [rrSt_length]; omega)]
      by_cases h : i = j
      · subst h
        rw [if_pos rfl, if_pos (by omega), ← h1, ← hii]
        omega
      · rw [if_neg h, h2 j hj]
        by_cases h3 : j < i
        · rw [if_pos h3, if_pos (by omega)]
        · rw [if_neg h3, if_neg (by omega)]
theorem cz_rround {n : List Nat} (hn : n.length = 16) : cz (rround n) = carryL (cz n) := by
  have hz := (cz_length n).trans hn
  refine ext16 (m := 16) ((cz_length _).trans ((rround_length n).trans hn)) ((carryL_length _).trans hz) (fun j hj => ?_)
  obtain ⟨h1, h2⟩ := rrSt_get hn 16 (by omega)
  have h0 := h2 0 (by omega)
  rw [if_pos (by omega), cOut, Int.add_zero] at h0
  rw [cz_get, rround, getD_set _ _ _ _ _ (by rw [rrSt_length]; omega), carryL_get hz j hj]
  by_cases h : 0 = j
  · rw [if_pos h, if_pos h.symm, ← h1, ← h0]
    omega
  · rw [if_neg h, if_neg (by omega), h2 j hj, if_pos hj]
theorem rN_length (n : List Nat) : ∀ i, (rN n i).length = n.length
  | 0 => rfl
  | i + 1 => by rw [rN, rround_length, rN_length]
/-- four rounds bring digits -/
theorem carried_dig {n : List Nat} (hn : n.length = 16) (hM : ∀ j, j < 16 → n.getD j 0 ≤ 1152921504606846976) : digN (rN n 4) ∧ valI (cz (rN n 4)) % pZ = valI (cz n) % pZ := by
  have hz := (cz_length n).trans hn
  have hM' : ∀ j, j < 16 → -1152921504606846976 ≤ (cz n).getD j 0 ∧ (cz n).getD j 0 ≤ 1152921504606846976 := fun j hj => by
    rw [cz_get]; have := hM j hj; omega
  have hb := cOut_bound (K := 35184372088832) hM' (by omega) (by omega) 16 (by omega)
  have hnn : 0 ≤ cOut (cz n) 16 := by rw [← (rrSt_get hn 16 (by omega)).1]; omega
  have c1 := carry_dig hz
  have v1 := carryL_val hz
  have l1 := (carryL_length (cz n)).trans hz
  have l1n := (rround_length n).trans hn
  have c2 := carry_dig l1
  have v2 := carryL_val l1
  have l2 := (carryL_length (carryL (cz n))).trans l1
  have e1 := cz_rround hn
  have e2 := cz_rround l1n
  rw [e1] at e2
  have l2n := (rround_length (rround n)).trans l1n
  have e3 := cz_rround l2n
  rw [e2] at e3
  have l3n := (rround_length (rround (rround n))).trans l2n
  have e4 := cz_rround l3n
  rw [e3] at e4
  have hv1 : 0 ≤ valI (carryL (cz n)) ∧ valI (carryL (cz n)) ≤ 115792089237316195423570985008687907853269984665640564039457584007913129639936 + 2000000000000000 := by
    rw [v1]; simp only [pZ]; omega
  have hv2 : 0 ≤ valI (carryL (carryL (cz n))) ∧ valI (carryL (carryL (cz n))) < 115792089237316195423570985008687907853269984665640564039457584007913129639936 := by
    rw [v2]; simp only [pZ]
    have : cOut (carryL (cz n)) 16 = 0 ∨ cOut (carryL (cz n)) 16 = 1 := by omega
    rcases this with h | h <;> rw [h] at c2 ⊢ <;> omega
  obtain ⟨d3, v3⟩ := carry_small l2 hv2.1 hv2.2
  obtain ⟨d4, v4⟩ := carry_small d3.1 (by omega) (by omega)
  have e5 : cz (rN n 4) = carryL (carryL (carryL (carryL (cz n)))) := e4
  exact ⟨digN_of (by rw [e5]; exact d4), by rw [e5, v4, v3, v2, sub_p, v1, sub_p]⟩
/-! ### sums, differences, products -/
def raddSt (a b : List Nat) : Nat → List Nat
  | 0 => a
  | i + 1 => (raddSt a b i).set i ((raddSt a b i).getD i 0 + b.getD i 0)
theorem raddSt_length (a b : List Nat) : ∀ i, (raddSt a b i).length = a.length
  | 0 => rfl
  | i + 1 => by rw [raddSt, List.length_set, raddSt_length]
theorem cz_raddSt (a b : List Nat) : ∀ i, cz (raddSt a b i) = addSt (cz a) (cz b) i
  | 0 => rfl
  | i + 1 => by
    rw [raddSt, cz_set, cz_raddSt a b i, addSt, ← cz_raddSt a b i, cz_get, cz_get, Int.natCast_add]
def fourN (i : Nat) : Nat := if i = 0 then 130996 else 131070
def fourL : List Nat := 130996 :: List.replicate 15 131070
theorem fourL_get (i : Nat) (hi : i < 16) : fourL.getD i 0 = fourN i := by
  have : ∀ i : Fin 16, fourL.getD i.val 0 = fourN i.val := by decide
  exact this ⟨i, hi⟩
theorem fourL_val : valI (cz fourL) = 4 * pZ := by decide +kernel
def rsubSt (a b : List Nat) : Nat → List Nat
  | 0 => a
  | i + 1 => (rsubSt a b i).set i ((rsubSt a b i).getD i 0 + fourN i - b.getD i 0)
theorem rsubSt_length (a b : List Nat) : ∀ i, (rsubSt a b i).length = a.length
  | 0 => rfl
  | i + 1 => by rw [rsubSt, List.length_set, rsubSt_length]
theorem rsubSt_get {a b : List Nat} (ha : a.length = 16) : ∀ i, i ≤ 16 → ∀ j, (rsubSt a b i).getD j 0 = if j < i then a.getD j 0 + fourN j - b.getD j 0 else a.getD j 0
  | 0, _, j => by simp [rsubSt]
  | i + 1, hi, j => by
    have ih := rsubSt_get (b := b) ha i (by omega)
    rw [rsubSt, getD_set _ _ _ _ _ (by rw [rsubSt_length]; omega), ih i, if_neg (show ¬ i < i by omega), ih j]
    by_cases h : i = j
    · subst h; rw [if_pos rfl, if_pos (by omega)]
    · rw [if_neg h]
      by_cases h2 : j < i
      · rw [if_pos h2, if_pos (by omega)]
      · rw [if_neg h2, if_neg (by omega)]
theorem cz_rsub {a b : List Nat} (ha : digN a) (hb : digN b) : cz (rsubSt a b 16) = subSt (addSt (cz a) (cz fourL) 16) (cz b) 16 := by
  have hza := (cz_length a).trans ha.1
  have hl := (addSt_length (cz a) (cz fourL) 16).trans hza
  refine ext16 (m := 16) ((cz_length _).trans ((rsubSt_length a b 16).trans ha.1)) ((subSt_length _ _ 16).trans hl) (fun j hj => ?_)
  rw [cz_get, rsubSt_get ha.1 16 (by omega), if_pos hj, subSt_get hl 16 (by omega), if_pos hj, addSt_get hza 16 (by omega), if_pos hj, cz_get, cz_get, cz_get, fourL_get j hj]
  have h1 := hb.2 j hj
  have h2 : 130996 ≤ fourN j := by unfold fourN; split <;> omega
  omega
def rmulIn (a b : List Nat) (i : Nat) (t : List Nat) : Nat → List Nat
  | 0 => t
  | k + 1 => (rmulIn a b i t k).set (i + k) ((rmulIn a b i t k).getD (i + k) 0 + a.getD i 0 * b.getD k 0)
def rmulOut (a b : List Nat) : Nat → List Nat
  | 0 => List.replicate 32 0
  | i + 1 => rmulIn a b i (rmulOut a b i) 16
theorem rmulIn_length (a b : List Nat) (i : Nat) (t : List Nat) : ∀ k, (rmulIn a b i t k).length = t.length
  | 0 => rfl
  | k + 1 => by rw [rmulIn, List.length_set, rmulIn_length]
theorem rmulOut_length (a b : List Nat) : ∀ i, (rmulOut a b i).length = 32
  | 0 => rfl
  | i + 1 => by rw [rmulOut, rmulIn_length, rmulOut_length]
theorem cz_rmulIn (a b : List Nat) (i : Nat) (t : List Nat) : ∀ k, cz (rmulIn a b i t k) = mulIn (cz a) (cz b) i (cz t) k
  | 0 => rfl
  | k + 1 => by
    rw [rmulIn, cz_set, cz_rmulIn a b i t k, mulIn, ← cz_rmulIn a b i t k, cz_get, cz_get, cz_get, Int.natCast_add, Int.natCast_mul]
theorem cz_rmulOut (a b : List Nat) : ∀ i, cz (rmulOut a b i) = mulOut (cz a) (cz b) i
  | 0 => by rw [rmulOut, cz_rep]; rfl
  | i + 1 => by rw [rmulOut, cz_rmulIn, cz_rmulOut a b i]; rfl
def rfoldSt (t : List Nat) : Nat → List Nat
  | 0 => List.replicate 16 0
  | i + 1 => (rfoldSt t i).set i (t.getD i 0 + 38 * t.getD (i + 16) 0)
theorem rfoldSt_length (t : List Nat) : ∀ i, (rfoldSt t i).length = 16
  | 0 => rfl
  | i + 1 => by rw [rfoldSt, List.length_set, rfoldSt_length]
theorem cz_rfoldSt (t : List Nat) : ∀ i, cz (rfoldSt t i) = foldSt (cz t) i
  | 0 => by rw [rfoldSt, cz_rep]; rfl
  | i + 1 => by
    rw [rfoldSt, cz_set, cz_rfoldSt t i, foldSt, cz_get, cz_get]
    congr 1
def raddL (a b : List Nat) : List Nat := rN (raddSt a b 16) 4
def rsubL (a b : List Nat) : List Nat := rN (rsubSt a b 16) 4
def rmulL (a b : List Nat) : List Nat := rN (rfoldSt (rmulOut a b 16) 16) 4
theorem radd_bound {a b : List Nat} (ha : digN a) (hb : digN b) : ∀ j, j < 16 → (raddSt a b 16).getD j 0 ≤ 131070 := by
  intro j hj
  have h := cz_get (raddSt a b 16) j
  rw [cz_raddSt, addSt_get ((cz_length a).trans ha.1) 16 (by omega), if_pos hj, cz_get, cz_get] at h
  have h1 := ha.2 j hj
  have h2 := hb.2 j hj
  omega
theorem rsub_bound {a b : List Nat} (ha : digN a) (hb : digN b) : ∀ j, j < 16 → (rsubSt a b 16).getD j 0 ≤ 196605 := by
  intro j hj
  rw [rsubSt_get ha.1 16 (by omega), if_pos hj]
  have h1 := ha.2 j hj
  have h2 : fourN j ≤ 131070 := by unfold fourN; split <;> omega
  omega
theorem rmul_bound {a b : List Nat} (ha : digN a) (hb : digN b) : ∀ j, j < 16 → (rfoldSt (rmulOut a b 16) 16).getD j 0 ≤ 1152921504606846976 := by
  intro j hj
  have h := cz_get (rfoldSt (rmulOut a b 16) 16) j
  rw [cz_rfoldSt, cz_rmulOut] at h
  have := fold_bound ha.okE hb.okE j hj
  omega
theorem raddL_dig {a b : List Nat} (ha : digN a) (hb : digN b) : digN (raddL a b) := (carried_dig ((raddSt_length a b 16).trans ha.1) (fun j hj => by have := radd_bound ha hb j hj; omega)).1
theorem rsubL_dig {a b : List Nat} (ha : digN a) (hb : digN b) : digN (rsubL a b) := (carried_dig ((rsubSt_length a b 16).trans ha.1) (fun j hj => by have := rsub_bound ha hb j hj; omega)).1
theorem rmulL_dig {a b : List Nat} (ha : digN a) (hb : digN b) : digN (rmulL a b) := (carried_dig (rfoldSt_length _ 16) (rmul_bound ha hb)).1
theorem raddL_val {a b : List Nat} (ha : digN a) (hb : digN b) : valI (cz (raddL a b)) % pZ = (valI (cz a) + valI (cz b)) % pZ := by
  rw [raddL, (carried_dig ((raddSt_length a b 16).trans ha.1) (fun j hj => by have := radd_bound ha hb j hj; omega)).2, cz_raddSt, addSt_val ((cz_length a).trans ha.1) ((cz_length b).trans hb.1) 16 (by omega), List.take_of_length_le (by rw [cz_length, hb.1]; omega)]
theorem rsubL_val {a b : List Nat} (ha : digN a) (hb : digN b) : valI (cz (rsubL a b)) % pZ = (valI (cz a) - valI (cz b)) % pZ := by
  have hza := (cz_length a).trans ha.1
  rw [rsubL, (carried_dig ((rsubSt_length a b 16).trans ha.1) (fun j hj => by have := rsub_bound ha hb j hj; omega)).2, cz_rsub ha hb, subSt_val ((addSt_length _ _ 16).trans hza) ((cz_length b).trans hb.1) 16 (by omega), addSt_val hza rfl 16 (by omega), List.take_of_length_le (l := cz b) (by rw [cz_length, hb.1]; omega), List.take_of_length_le (l := cz fourL) (by decide), fourL_val]
  have : valI (cz a) + 4 * pZ - valI (cz b) = valI (cz a) - valI (cz b) + pZ * 4 := by simp only [pZ]; omega
  rw [this, Int.add_mul_emod_self_left]
theorem rmulL_val {a b : List Nat} (ha : digN a) (hb : digN b) : valI (cz (rmulL a b)) % pZ = (valI (cz a) * valI (cz b)) % pZ := by
  rw [rmulL, (carried_dig (rfoldSt_length _ 16) (rmul_bound ha hb)).2, cz_rfoldSt, cz_rmulOut]
  have hl := foldSt_length (mulOut (cz a) (cz b) 16) 16
  have h1 := mulL_val ha.okE hb.okE
  rw [mulL, carryL_val ((carryL_length _).trans hl), sub_p, carryL_val hl, sub_p] at h1
  exact h1
/-! ### what a number times comes to 1 -/
def rinvSt (a : List Nat) : Nat → List Nat
  | 0 => 1 :: List.replicate 15 0
  | k + 1 => if 254 - k = 2 ∨ 254 - k = 4 then rmulL (rinvSt a k) (rinvSt a k) else rmulL (rmulL (rinvSt a k) (rinvSt a k)) a
def rinvL (a : List Nat) : List Nat := rinvSt a 255
theorem one_dig : digN (1 :: List.replicate 15 0) := by
  refine ⟨rfl, ?_⟩
  have : ∀ j : Fin 16, (1 :: List.replicate 15 0 : List Nat).getD j.val 0 ≤ 65535 := by decide
  exact fun j hj => this ⟨j, hj⟩
theorem rinvSt_dig {a : List Nat} (ha : digN a) : ∀ k, digN (rinvSt a k)
  | 0 => one_dig
  | k + 1 => by
    have ih := rinvSt_dig ha k
    have h2 := rmulL_dig ih ih
    rw [rinvSt]
    split
    · exact h2
    · exact rmulL_dig h2 ha
theorem rinvL_dig {a : List Nat} (ha : digN a) : digN (rinvL a) := rinvSt_dig ha 255
def rinvP : Nat → Nat
  | 0 => 0
  | k + 1 => if 254 - k = 2 ∨ 254 - k = 4 then 2 * rinvP k else 2 * rinvP k + 1
theorem rinvP_all : rinvP 255 = pN - 2 := by decide +kernel
theorem rinvSt_val {a : List Nat} (ha : digN a) : ∀ k, valI (cz (rinvSt a k)) % pZ = (valI (cz a)) ^ (rinvP k) % pZ
  | 0 => by rw [rinvSt, rinvP, Int.pow_zero]; decide +kernel
  | k + 1 => by
    have ih := rinvSt_val ha k
    have hk := rinvSt_dig ha k
    have h2 : valI (cz (rmulL (rinvSt a k) (rinvSt a k))) % pZ = (valI (cz a)) ^ (2 * rinvP k) % pZ := by
      rw [rmulL_val hk hk, emod_mul ih ih, Nat.two_mul, Int.pow_add]
    rw [rinvSt, rinvP]
    split
    · exact h2
    · rw [rmulL_val (rmulL_dig hk hk) ha, emod_mul h2 rfl, Int.pow_succ]
theorem rinvL_val {a : List Nat} (ha : digN a) : valI (cz (rinvL a)) % pZ = (valI (cz a)) ^ (pN - 2) % pZ := by
  rw [rinvL, rinvSt_val ha 255, rinvP_all]
/-! ### the least number -/
def pDn (i : Nat) : Nat := if i = 0 then 65517 else if i = 15 then 32767 else 65535
theorem pDn_cast (i : Nat) : ((pDn i : Nat) : Int) = pD i := by unfold pDn pD; split <;> (try split) <;> rfl
def pL : List Nat := 65517 :: (List.replicate 14 65535 ++ [32767])
theorem pL_get (i : Nat) (hi : i < 16) : pL.getD i 0 = pDn i := by
  have : ∀ i : Fin 16, pL.getD i.val 0 = pDn i.val := by decide
  exact this ⟨i, hi⟩
theorem pL_dig : digN pL := ⟨rfl, fun j hj => by rw [pL_get j hj]; unfold pDn; split <;> (try split) <;> omega⟩
theorem pL_val : valI (cz pL) = pZ := by decide +kernel
theorem valI_split (e : List Int) (i : Nat) (hi : i < e.length) : valI e = valI (e.take i) + 65536 ^ i * (e.getD i 0 + 65536 * valI (e.drop (i + 1))) := by
  have h := valI_append (e.take i) (e.drop i)
  rw [List.take_append_drop, List.length_take, Nat.min_eq_left (by omega)] at h
  rw [h, List.drop_eq_getElem_cons hi, valI]
  congr 4
  simp [hi]
theorem drop_eq {a b : List Int} {i : Nat} (ha : a.length = 16) (hb : b.length = 16) (h : ∀ j, i ≤ j → j < 16 → a.getD j 0 = b.getD j 0) : a.drop i = b.drop i := by
  apply List.ext_getElem (by simp [ha, hb])
  intro j h1 h2
  have h1' : j < 16 - i := by simpa [ha] using h1
  have := h (i + j) (by omega) (by omega)
  rw [List.getElem_drop, List.getElem_drop]
  simpa [ha, hb, show i + j < 16 by omega] using this
theorem low_bound {e : List Int} (he : dig e) (i : Nat) (hi : i ≤ 16) : 0 ≤ valI (e.take i) ∧ valI (e.take i) < 65536 ^ i := by
  have := valI_bound (e.take i) (fun j hj => by
    rw [List.length_take] at hj
    have e' : (e.take i).getD j 0 = e.getD j 0 := by rw [List.getD_eq_getElem?_getD, List.getElem?_take, if_pos (by omega), List.getD_eq_getElem?_getD]
    rw [e']
    exact he.2 j (by have := he.1; omega))
  rw [List.length_take, he.1, Nat.min_eq_left hi] at this
  exact this
/-- where two numbers first differ from above tells which is less -/
theorem cmp_dig {a b : List Int} (ha : dig a) (hb : dig b) (i : Nat) (hi : i < 16) (h : ∀ j, i + 1 ≤ j → j < 16 → a.getD j 0 = b.getD j 0) (hlt : a.getD i 0 < b.getD i 0) : valI a < valI b := by
  have h1 := valI_split a i (by rw [ha.1]; exact hi)
  have h2 := valI_split b i (by rw [hb.1]; exact hi)
  rw [drop_eq ha.1 hb.1 h] at h1
  obtain ⟨a1, a2⟩ := low_bound ha i (by omega)
  obtain ⟨b1, b2⟩ := low_bound hb i (by omega)
  have hp : (0 : Int) < 65536 ^ i := Int.pow_pos (by omega)
  have hm : 65536 ^ i * (a.getD i 0 + 65536 * valI (b.drop (i + 1))) + 65536 ^ i ≤ 65536 ^ i * (b.getD i 0 + 65536 * valI (b.drop (i + 1))) := by
    have h3 : 65536 ^ i * (a.getD i 0 + 65536 * valI (b.drop (i + 1))) + 65536 ^ i = 65536 ^ i * (a.getD i 0 + 65536 * valI (b.drop (i + 1)) + 1) := by rw [Int.mul_add (65536 ^ i) _ 1, Int.mul_one]
    rw [h3]
    exact Int.mul_le_mul_of_nonneg_left (by omega) (Int.le_of_lt hp)
  omega
theorem eq_dig {a b : List Int} (ha : dig a) (hb : dig b) (h : ∀ j, j < 16 → a.getD j 0 = b.getD j 0) : a = b := ext16 ha.1 hb.1 h
def leB (n : List Nat) : Bool := decide (pZ ≤ valI (cz n))
def rlSt (n : List Nat) : Nat → List Nat × Nat
  | 0 => (n, 0)
  | i + 1 => ((rlSt n i).1.set i (((rlSt n i).1.getD i 0 + 65536 - pDn i - (rlSt n i).2) % 65536), 1 - ((rlSt n i).1.getD i 0 + 65536 - pDn i - (rlSt n i).2) / 65536)
theorem rlSt_length (n : List Nat) : ∀ i, (rlSt n i).1.length = n.length
  | 0 => rfl
  | i + 1 => by rw [rlSt, List.length_set, rlSt_length]
theorem rlSt_get {n : List Nat} (hn : digN n) : ∀ i, i ≤ 16 → (((rlSt n i).2 : Nat) : Int) = (lessSt (cz n) i).2 ∧ ∀ j, j < 16 → (((rlSt n i).1.getD j 0 : Nat) : Int) = if j < i then (lessSt (cz n) i).1.getD j 0 else (cz n).getD j 0
  | 0, _ => ⟨rfl, fun j hj => by rw [if_neg (by omega), cz_get]; rfl⟩
  | i + 1, hi => by
    obtain ⟨h1, h2⟩ := rlSt_get hn i (by omega)
    have hii := h2 i (by omega)
    rw [if_neg (by omega), cz_get] at hii
    have hni := hn.2 i (by omega)
    have ho := lessSt_owed (cz n) i
    have hp : pDn i ≤ 65535 := by unfold pDn; split <;> (try split) <;> omega
    have hpc := pDn_cast i
    refine ⟨?_, fun j hj => ?_⟩
    · show ((1 - ((rlSt n i).1.getD i 0 + 65536 - pDn i - (rlSt n i).2) / 65536 : Nat) : Int) = ((cz n).getD i 0 - (pD i + (lessSt (cz n) i).2)) / 2 ^ 16 % 2 ^ 1
      rw [cz_get, ← h1, ← hpc] at *
      omega
    · show ((((rlSt n i).1.set i (((rlSt n i).1.getD i 0 + 65536 - pDn i - (rlSt n i).2) % 65536)).getD j 0 : Nat) : Int) = if j < i + 1 then ((lessSt (cz n) i).1.set i (((cz n).getD i 0 - (pD i + (lessSt (cz n) i).2)) % 2 ^ 16)).getD j 0 else (cz n).getD j 0
      rw [getD_set _ _ _ _ _ (by rw [rlSt_length, hn.1]; omega), getD_set _ _ _ _ _ (by rw [lessSt_length]; omega)]
      by_cases h : i = j
      · subst h
        rw [if_pos rfl, if_pos rfl, if_pos (by omega), cz_get, ← h1, ← hpc]
        omega
      · rw [if_neg h, if_neg h, h2 j hj]
        by_cases h3 : j < i
        · rw [if_pos h3, if_pos (by omega)]
        · rw [if_neg h3, if_neg (by omega)]
theorem cz_rl {n : List Nat} (hn : digN n) : cz (rlSt n 16).1 = (lessSt (cz n) 16).1 := by
  refine ext16 (m := 16) ((cz_length _).trans ((rlSt_length n 16).trans hn.1)) (lessSt_length _ 16) (fun j hj => ?_)
  rw [cz_get, (rlSt_get hn 16 (by omega)).2 j hj, if_pos hj]
theorem rl_dig {n : List Nat} (hn : digN n) : digN (rlSt n 16).1 := digN_of (by rw [cz_rl hn]; exact lessSt_dig _)
theorem rl_val {n : List Nat} (hn : digN n) (h : pZ ≤ valI (cz n)) : valI (cz (rlSt n 16).1) = valI (cz n) - pZ := by
  rw [cz_rl hn]
  rcases less_val hn.dig with ⟨_, h2⟩ | ⟨_, _, h3⟩
  · omega
  · exact h3
/-- a number's bytes -/
def keyV (x : Int) : List UInt8 := bN 32 (x % pZ).toNat
theorem keyV_length (x : Int) : (keyV x).length = 32 := bN_length 32 _
theorem keyL_V {v : List Int} (h : okE v) : keyL v = keyV (valI v) := by
  rw [keyV, ← keyL_leZ h, bN_leZ (keyL_length v)]
theorem keySt_V {n : List Nat} (hn : digN n) (h : valI (cz n) < pZ) : keySt (cz n) 16 = keyV (valI (cz n)) := by
  have hb := hn.dig.bound
  have hl := keySt_val hn.dig 16 (by omega)
  rw [List.take_of_length_le (by rw [cz_length, hn.1]; omega)] at hl
  rw [keyV, Int.emod_eq_of_lt hb.1 h, ← hl, bN_leZ (keySt_length _ 16)]
theorem keyV_eq {x y : Int} (h : x % pZ = y % pZ) : keyV x = keyV y := by rw [keyV, h, ← keyV]
theorem u64s_rep (m : Nat) : u64s (List.replicate m 0) = n64s (List.replicate m 0) := by simp [u64s, n64s]
theorem rr_bound {m : List Nat} (hm : m.length = 16) (hM : ∀ j, j < 16 → m.getD j 0 ≤ 1152921504606846976) : ∀ i, i ≤ 16 → (rrSt m i).2 ≤ 35184372088832 ∧ ∀ j, j < 16 → (rrSt m i).1.getD j 0 ≤ 1152921504606846976 := by
  intro i hi
  have hb := cOut_bound (v := cz m) (M := 1152921504606846976) (K := 35184372088832) (fun j hj => by rw [cz_get]; have := hM j hj; omega) (by omega) (by omega) i hi
  obtain ⟨h1, h2⟩ := rrSt_get hm i hi
  refine ⟨by omega, fun j hj => ?_⟩
  have h3 := h2 j hj
  have h4 := hM j hj
  rw [cz_get] at h3
  split at h3 <;> omega
theorem rN_bound {n : List Nat} (hn : n.length = 16) (hM : ∀ j, j < 16 → n.getD j 0 ≤ 1152921504606846976) : ∀ r j, j < 16 → (rN n r).getD j 0 ≤ 1152921504606846976
  | 0, j, hj => hM j hj
  | r + 1, j, hj => by
    have ih := rN_bound hn hM r
    have hl := (rN_length n r).trans hn
    obtain ⟨h1, h2⟩ := rr_bound hl ih 16 (by omega)
    obtain ⟨_, h3⟩ := rrSt_get hl 16 (by omega)
    have h0 := h3 0 (by omega)
    rw [if_pos (by omega)] at h0
    rw [rN, rround, getD_set _ _ _ _ _ (by rw [rrSt_length, hl]; omega)]
    split
    · omega
    · exact h2 j hj
theorem leB_top {n : List Nat} (hn : digN n) (i : Nat) (hi : i < 16) (h : ∀ j, i + 1 ≤ j → j < 16 → n.getD j 0 = pDn j) (hne : n.getD i 0 ≠ pDn i) : decide (pDn i < n.getD i 0) = leB n := by
  have hz : ∀ j, i + 1 ≤ j → j < 16 → (cz n).getD j 0 = (cz pL).getD j 0 := fun j h1 h2 => by rw [cz_get, cz_get, h j h1 h2, pL_get j h2]
  unfold leB
  by_cases hlt : pDn i < n.getD i 0
  · have := cmp_dig pL_dig.dig hn.dig i hi (fun j h1 h2 => (hz j h1 h2).symm) (by rw [cz_get, cz_get, pL_get i hi]; omega)
    rw [pL_val] at this
    rw [decide_eq_true hlt, decide_eq_true (Int.le_of_lt this)]
  · have := cmp_dig hn.dig pL_dig.dig i hi hz (by rw [cz_get, cz_get, pL_get i hi]; omega)
    rw [pL_val] at this
    rw [decide_eq_false hlt, decide_eq_false (by omega)]
theorem leB_all {n : List Nat} (hn : digN n) (h : ∀ j, j < 16 → n.getD j 0 = pDn j) : true = leB n := by
  have : cz n = cz pL := eq_dig hn.dig pL_dig.dig (fun j hj => by rw [cz_get, cz_get, h j hj, pL_get j hj])
  unfold leB
  rw [this, pL_val]
  rfl
def rlN (c : List Nat) : Nat → List Nat
  | 0 => c
  | j + 1 => (rlSt (rlN c j) 16).1
theorem rl_bound {n : List Nat} (hn : digN n) (i : Nat) (hi : i < 16) : (rlSt n i).2 ≤ 1 ∧ (rlSt n i).1.getD i 0 = n.getD i 0 := by
  obtain ⟨h1, h2⟩ := rlSt_get hn i (by omega)
  have h3 := h2 i hi
  rw [if_neg (by omega), cz_get] at h3
  have := lessSt_owed (cz n) i
  omega
def rkeySt (n : List Nat) : Nat → List UInt8
  | 0 => List.replicate 32 0
  | i + 1 => ((rkeySt n i).set (2 * i) (UInt8.ofNat (n.getD i 0))).set (2 * i + 1) (UInt8.ofNat (n.getD i 0 / 256))
theorem rkeySt_eq (n : List Nat) : ∀ i, rkeySt n i = keySt (cz n) i
  | 0 => rfl
  | i + 1 => by
    rw [rkeySt, keySt, rkeySt_eq n i, cz_get]
    have e1 : UInt8.ofNat (((n.getD i 0 : Nat) : Int) % 256).toNat = UInt8.ofNat (n.getD i 0) := by
      apply UInt8.toNat_inj.1
      rw [UInt8.toNat_ofNat', UInt8.toNat_ofNat']
      omega
    have e2 : UInt8.ofNat (((n.getD i 0 : Nat) : Int) / 2 ^ 8 % 256).toNat = UInt8.ofNat (n.getD i 0 / 256) := by
      apply UInt8.toNat_inj.1
      rw [UInt8.toNat_ofNat', UInt8.toNat_ofNat']
      omega
    rw [e1, e2]
theorem rkeySt_length (n : List Nat) (i : Nat) : (rkeySt n i).length = 32 := by rw [rkeySt_eq, keySt_length]
end Go.PBYtabmfndiepmcgaa
end
section
namespace Go.PBYtabmfndiepmcgaa
set_option linter.unusedVariables false
/-! ### powers modulo a number, so that they can be reckoned -/
def pmStep (n a : Nat) (b : Bool) : Nat → Nat
  | 0 => 0
  | k + 1 => match b with
    | true => (k + 1) * (k + 1) % n * a % n
    | false => (k + 1) * (k + 1) % n
def pmf (n a : Nat) : Nat → Nat → Nat
  | 0, _ => 1
  | f + 1, e => pmStep n a (Nat.beq (e % 2) 1) (pmf n a f (e / 2))
theorem pmStep_eq (n a : Nat) (b : Bool) (x : Nat) (hn : 1 < n) : pmStep n a b x % n = (x * x * (if b then a else 1)) % n := by
  cases x with
  | zero => simp [pmStep]
  | succ k =>
    cases b with
    | true =>
      show ((k + 1) * (k + 1) % n * a % n) % n = ((k + 1) * (k + 1) * a) % n
      rw [Nat.mod_mod, Nat.mod_mul_mod]
    | false =>
      show ((k + 1) * (k + 1) % n) % n = ((k + 1) * (k + 1) * 1) % n
      rw [Nat.mod_mod, Nat.mul_one]
theorem pmf_eq (n a : Nat) (hn : 1 < n) : ∀ f e, e < 2 ^ f → pmf n a f e % n = a ^ e % n
  | 0, e, h => by
    have : e = 0 := by simpa using h
    subst this
    rfl
  | f + 1, e, h => by
    have ih := pmf_eq n a hn f (e / 2) (by rw [Nat.pow_succ] at h; omega)
    show pmStep n a (Nat.beq (e % 2) 1) (pmf n a f (e / 2)) % n = a ^ e % n
    have hx : (pmf n a f (e / 2) * pmf n a f (e / 2)) % n = (a ^ (e / 2) * a ^ (e / 2)) % n := by rw [Nat.mul_mod, ih, ← Nat.mul_mod]
    rw [pmStep_eq n a _ _ hn, Nat.mul_mod, hx, ← Nat.mul_mod, ← Nat.pow_add]
    cases hb : Nat.beq (e % 2) 1 with
    | true =>
      have h1 := Nat.eq_of_beq_eq_true hb
      rw [if_pos rfl, ← Nat.pow_succ]
      congr 2
      omega
    | false =>
      have h1 := Nat.ne_of_beq_eq_false hb
      rw [if_neg (by simp), Nat.mul_one]
      congr 2
      omega
/-! ### primes -/
def Pr (n : Nat) : Prop := 1 < n ∧ ∀ d, d ∣ n → d = 1 ∨ d = n
theorem Pr.euclid {p a b : Nat} (hp : Pr p) (h : p ∣ a * b) : p ∣ a ∨ p ∣ b := by
  rcases hp.2 _ (Nat.gcd_dvd_left p a) with h1 | h1
  · right
    exact (Nat.Coprime.dvd_of_dvd_mul_left (k := p) (m := a) (n := b) h1 h)
  · left
    rw [← h1]
    exact Nat.gcd_dvd_right p a
theorem Pr.pow {p a : Nat} (hp : Pr p) : ∀ e, p ∣ a ^ e → p ∣ a
  | 0, h => by
    rw [Nat.pow_zero] at h
    have := Nat.le_of_dvd (by omega) h
    have := hp.1
    omega
  | e + 1, h => by
    rw [Nat.pow_succ] at h
    rcases hp.euclid h with h | h
    · exact hp.pow e h
    · exact h
theorem exists_pr : ∀ n, 1 < n → ∃ r, Pr r ∧ r ∣ n := by
  intro n
  induction n using Nat.strongRecOn with
  | _ n ih =>
    intro hn
    by_cases h : Pr n
    · exact ⟨n, h, Nat.dvd_refl n⟩
    · have h2 : ∃ d, d ∣ n ∧ d ≠ 1 ∧ d ≠ n := by
        apply Classical.byContradiction
        intro hc
        apply h
        refine ⟨hn, fun d hd => ?_⟩
        by_cases h1 : d = 1
        · exact .inl h1
        · by_cases h3 : d = n
          · exact .inr h3
          · exact absurd ⟨d, hd, h1, h3⟩ hc
      obtain ⟨d, hd, h1, h3⟩ := h2
      have hle := Nat.le_of_dvd (by omega) hd
      have hd0 : d ≠ 0 := by rintro rfl; have := Nat.eq_zero_of_zero_dvd hd; omega
      obtain ⟨r, hr, hrd⟩ := ih d (by omega) (by omega)
      exact ⟨r, hr, Nat.dvd_trans hrd hd⟩
def prodP : List (Nat × Nat) → Nat
  | [] => 1
  | q :: r => q.1 ^ q.2 * prodP r
theorem dvd_prodP {r : Nat} (hr : Pr r) : ∀ (fs : List (Nat × Nat)), (∀ q ∈ fs, Pr q.1) → r ∣ prodP fs → ∃ q ∈ fs, q.1 = r
  | [], _, h => by
    rw [prodP] at h
    have := Nat.le_of_dvd (by omega) h
    have := hr.1
    omega
  | q :: fs, hp, h => by
    rw [prodP] at h
    rcases hr.euclid h with h1 | h1
    · have h2 := hr.pow _ h1
      rcases (hp q (by simp)).2 r h2 with h3 | h3
      · have := hr.1; omega
      · exact ⟨q, by simp, h3.symm⟩
    · obtain ⟨q', h2, h3⟩ := dvd_prodP hr fs (fun q hq => hp q (by simp [hq])) h1
      exact ⟨q', by simp [h2], h3⟩
/-- so many that are not the same, below m, are at most m -/
theorem pig : ∀ (m : Nat) (l : List Nat), l.Nodup → (∀ x ∈ l, x < m) → l.length ≤ m
  | 0, [], _, _ => Nat.le_refl 0
  | 0, x :: l, _, h => by have := h x (by simp); omega
  | m + 1, l, hn, h => by
    by_cases hm : m ∈ l
    · have h1 := pig m (l.erase m) (hn.erase m) (fun x hx => by
        have := (hn.mem_erase_iff).1 hx
        have h2 := h x this.2
        have := this.1
        omega)
      rw [List.length_erase_of_mem hm] at h1
      omega
    · have := pig m l hn (fun x hx => by
        have h2 := h x hx
        have : x ≠ m := by rintro rfl; exact hm hx
        omega)
      omega
/-- each number below n but 0 is a power of a -/
def Goes (n a : Nat) : Prop := a ^ (n - 1) % n = 1 ∧ ∀ x, 0 < x → x < n → ∃ k, a ^ k % n = x
theorem pow_mod_eq {n a k m : Nat} (h : a ^ k % n = 1 % n) : (a ^ k) ^ m % n = 1 % n := by
  rw [Nat.pow_mod, h, ← Nat.pow_mod, Nat.one_pow]
theorem goes {n a : Nat} {fs : List (Nat × Nat)} (hn : 1 < n) (hf : prodP fs = n - 1) (hp : ∀ q ∈ fs, Pr q.1) (h1 : a ^ (n - 1) % n = 1) (hq : ∀ q ∈ fs, a ^ ((n - 1) / q.1) % n ≠ 1) : Goes n a := by
  refine ⟨h1, ?_⟩
  have e1 : 1 % n = 1 := Nat.mod_eq_of_lt hn
  -- it goes round in no less
  have hord : ∀ o, 0 < o → a ^ o % n = 1 → (∀ k, 0 < k → k < o → a ^ k % n ≠ 1) → o = n - 1 := by
    intro o ho h2 hmin
    have hdiv : (n - 1) % o = 0 := by
      apply Classical.byContradiction
      intro hc
      refine hmin ((n - 1) % o) (by omega) (Nat.mod_lt _ ho) ?_
      have h3 : a ^ (n - 1) = (a ^ o) ^ ((n - 1) / o) * a ^ ((n - 1) % o) := by
        rw [← Nat.pow_mul, ← Nat.pow_add, Nat.div_add_mod]
      rw [h3, Nat.mul_mod, pow_mod_eq (by rw [h2, e1]), e1, Nat.one_mul, Nat.mod_mod] at h1
      exact h1
    have hd := Nat.div_add_mod (n - 1) o
    rw [hdiv, Nat.add_zero] at hd
    by_cases hd1 : (n - 1) / o = 1
    · rw [hd1, Nat.mul_one] at hd; exact hd
    · exfalso
      have hd0 : (n - 1) / o ≠ 0 := by intro h; rw [h, Nat.mul_zero] at hd; omega
      obtain ⟨r, hr, hrd⟩ := exists_pr ((n - 1) / o) (Nat.lt_of_le_of_ne (Nat.pos_of_ne_zero hd0) (Ne.symm hd1))
      have hrn : r ∣ prodP fs := by rw [hf, ← hd]; exact Nat.dvd_trans hrd (Nat.dvd_mul_left _ _)
      obtain ⟨q, hqm, rfl⟩ := dvd_prodP hr fs hp hrn
      obtain ⟨c, hc⟩ := hrd
      refine hq q hqm ?_
      have h4 : (n - 1) / q.1 = o * c := by
        rw [← hd, hc, Nat.mul_left_comm, Nat.mul_div_cancel_left _ (by have := hr.1; omega)]
      rw [h4, Nat.pow_mul, pow_mod_eq (by rw [h2, e1]), e1]
  -- the least such
  have hleast : ∃ o, 0 < o ∧ a ^ o % n = 1 ∧ ∀ k, 0 < k → k < o → a ^ k % n ≠ 1 := by
    have key : ∀ m o, o ≤ m → 0 < o → a ^ o % n = 1 → ∃ o, 0 < o ∧ a ^ o % n = 1 ∧ ∀ k, 0 < k → k < o → a ^ k % n ≠ 1 := by
      intro m
      induction m with
      | zero => intro o h1 h2; omega
      | succ m ih =>
        intro o h1 h2 h3
        by_cases h : ∃ k, 0 < k ∧ k < o ∧ a ^ k % n = 1
        · obtain ⟨k, a1, a2, a3⟩ := h
          exact ih k (by omega) a1 a3
        · exact ⟨o, h2, h3, fun k a1 a2 a3 => h ⟨k, a1, a2, a3⟩⟩
    exact key (n - 1) (n - 1) (Nat.le_refl _) (by omega) h1
  obtain ⟨o, ho, h2, hmin⟩ := hleast
  obtain rfl := hord o ho h2 hmin
  -- what is a power can be undone
  have hundo : ∀ k x, k ≤ n - 1 → a ^ k * x % n = 1 → True := fun _ _ _ _ => trivial
  have hnz : ∀ k, k ≤ n - 1 → a ^ k % n ≠ 0 := by
    intro k hk h0
    have h3 : a ^ (n - 1) = a ^ k * a ^ (n - 1 - k) := by rw [← Nat.pow_add]; congr 1; omega
    rw [h3, Nat.mul_mod, h0, Nat.zero_mul, Nat.zero_mod] at h2
    cases h2
  have hinj : ∀ i j, i < j → j < n - 1 → a ^ i % n ≠ a ^ j % n := by
    intro i j hij hj he
    refine hmin (j - i) (by omega) (by omega) ?_
    -- times a^(n-1-i)
    have h3 : a ^ j = a ^ i * a ^ (j - i) := by rw [← Nat.pow_add]; congr 1; omega
    have h4 : a ^ (n - 1 - i) * a ^ i = a ^ (n - 1) := by rw [← Nat.pow_add]; congr 1; omega
    have h5 : a ^ (n - 1 - i) * a ^ j = a ^ (n - 1) * a ^ (j - i) := by rw [h3, ← Nat.mul_assoc, h4]
    have h6 : (a ^ (n - 1 - i) * a ^ i) % n = (a ^ (n - 1 - i) * a ^ j) % n := by rw [Nat.mul_mod, he, ← Nat.mul_mod]
    rw [h4, h5, h2, Nat.mul_mod, h2, Nat.one_mul, Nat.mod_mod] at h6
    exact h6.symm
  -- all are met
  intro x hx hxn
  apply Classical.byContradiction
  intro hc
  have hnodup : (0 :: x :: (List.range (n - 1)).map fun k => a ^ k % n).Nodup := by
    rw [List.nodup_cons, List.nodup_cons]
    refine ⟨?_, ?_, ?_⟩
    · intro h
      rcases List.mem_cons.1 h with h | h
      · omega
      · obtain ⟨k, hk, hk2⟩ := List.mem_map.1 h
        exact hnz k (by have := List.mem_range.1 hk; omega) hk2
    · intro h
      obtain ⟨k, hk, hk2⟩ := List.mem_map.1 h
      exact hc ⟨k, hk2⟩
    · unfold List.Nodup
      rw [List.pairwise_map]
      refine List.Pairwise.imp_of_mem ?_ (List.pairwise_lt_range)
      intro i j hi hj hij
      exact hinj i j hij (by have := List.mem_range.1 hj; omega)
  have := pig n _ hnodup (fun y hy => by
    rcases List.mem_cons.1 hy with rfl | hy
    · omega
    · rcases List.mem_cons.1 hy with rfl | hy
      · exact hxn
      · obtain ⟨k, _, rfl⟩ := List.mem_map.1 hy
        exact Nat.mod_lt _ (by omega))
  simp only [List.length_cons, List.length_map, List.length_range] at this
  omega
theorem Goes.fermat {n a : Nat} (hn : 1 < n) (h : Goes n a) (x : Nat) (hx : x % n ≠ 0) : x ^ (n - 1) % n = 1 := by
  obtain ⟨h1, h2⟩ := h
  obtain ⟨k, hk⟩ := h2 (x % n) (by omega) (Nat.mod_lt _ (by omega))
  rw [Nat.pow_mod, ← hk, ← Nat.pow_mod, ← Nat.pow_mul, Nat.mul_comm, Nat.pow_mul, Nat.pow_mod, h1, Nat.one_pow, Nat.mod_eq_of_lt hn]
theorem Goes.pr {n a : Nat} (hn : 1 < n) (h : Goes n a) : Pr n := by
  refine ⟨hn, fun d hd => ?_⟩
  obtain ⟨c, hc⟩ := hd
  by_cases hdn : d % n = 0
  · right
    have hd0 : d ≠ 0 := by rintro rfl; omega
    have h1 : n ∣ d := Nat.dvd_of_mod_eq_zero hdn
    have h2 : d ∣ n := ⟨c, hc⟩
    exact Nat.dvd_antisymm h2 h1
  · left
    have hf := h.fermat hn d hdn
    -- n divides d^(n-1) * c, which is c modulo n
    have h3 : d ^ (n - 1) * c % n = 0 := by
      have : d ^ (n - 1) * c = n * d ^ (n - 2) := by
        have e : d ^ (n - 1) = d ^ (n - 2) * d := by rw [← Nat.pow_succ]; congr 1; omega
        rw [e, Nat.mul_assoc, ← hc, Nat.mul_comm]
      rw [this, Nat.mul_mod_right]
    rw [Nat.mul_mod, hf, Nat.one_mul, Nat.mod_mod] at h3
    have hcn : n ∣ c := Nat.dvd_of_mod_eq_zero h3
    have hc0 : c ≠ 0 := by rintro rfl; omega
    have hle := Nat.le_of_dvd (by omega) hcn
    have hcd : c ∣ n := ⟨d, by rw [Nat.mul_comm]; exact hc⟩
    have hle2 := Nat.le_of_dvd (by omega) hcd
    have : c = n := by omega
    subst this
    have : d * c = 1 * c := by omega
    exact Nat.eq_of_mul_eq_mul_right (by omega) this
theorem pratt {n a : Nat} (fs : List (Nat × Nat)) (h : (Nat.ble 2 n && Nat.beq (prodP fs) (n - 1) && Nat.ble n (2 ^ 300) && Nat.beq (pmf n a 300 (n - 1)) 1 && fs.all fun q => !Nat.beq (pmf n a 300 ((n - 1) / q.1) % n) 1) = true) (hp : ∀ q ∈ fs, Pr q.1) : Goes n a ∧ Pr n := by
  simp only [Bool.and_eq_true, List.all_eq_true, Bool.not_eq_true'] at h
  obtain ⟨⟨⟨⟨h1, h2⟩, h3⟩, h4⟩, h5⟩ := h
  have hn := Nat.le_of_ble_eq_true h1
  have h3 := Nat.le_of_ble_eq_true h3
  have e := pmf_eq n a (by omega) 300 (n - 1) (by omega)
  rw [Nat.eq_of_beq_eq_true h4, Nat.mod_eq_of_lt (by omega)] at e
  have hg : Goes n a := goes (by omega) (Nat.eq_of_beq_eq_true h2) hp e.symm (fun q hq he => by
    have h6 := Nat.ne_of_beq_eq_false (h5 q hq)
    have hle : (n - 1) / q.1 ≤ n - 1 := Nat.div_le_self _ _
    rw [pmf_eq n a (by omega) 300 _ (by omega)] at h6
    exact h6 he)
  exact ⟨hg, hg.pr (by omega)⟩
/-- small ones -/
theorem pr_small {n : Nat} (h : (Nat.ble 2 n && Nat.ble n 1023 && (List.range 32).all fun d => Nat.ble d 1 || !Nat.beq (n % d) 0 || Nat.beq d n) = true) : Pr n := by
  simp only [Bool.and_eq_true, List.all_eq_true, List.mem_range, Bool.or_eq_true, Bool.not_eq_true'] at h
  obtain ⟨⟨h1, h2⟩, h3⟩ := h
  have h1 := Nat.le_of_ble_eq_true h1
  have h2 := Nat.le_of_ble_eq_true h2
  have key : ∀ d, d ∣ n → d < 32 → d = 1 ∨ d = n := by
    intro d hd hlt
    rcases h3 d hlt with (h | h) | h
    · have := Nat.le_of_ble_eq_true h
      have : d ≠ 0 := by rintro rfl; have := Nat.eq_zero_of_zero_dvd hd; omega
      omega
    · exact absurd (Nat.mod_eq_zero_of_dvd hd) (Nat.ne_of_beq_eq_false h)
    · exact .inr (Nat.eq_of_beq_eq_true h)
  refine ⟨by omega, fun d hd => ?_⟩
  by_cases hlt : d < 32
  · exact key d hd hlt
  · obtain ⟨c, hc⟩ := hd
    have hc32 : c < 32 := by
      apply Classical.byContradiction
      intro h
      have : 32 * 32 ≤ d * c := Nat.mul_le_mul (by omega) (by omega)
      omega
    rcases key c ⟨d, by rw [Nat.mul_comm]; exact hc⟩ hc32 with h | h
    · right; rw [h, Nat.mul_one] at hc; exact hc.symm
    · left
      have : d * n = 1 * n := by rw [h] at hc; omega
      exact Nat.eq_of_mul_eq_mul_right (by omega) this
end Go.PBYtabmfndiepmcgaa
end
section
namespace Go.PBYtabmfndiepmcgaa
theorem forall_nil : ∀ q ∈ ([] : List (Nat × Nat)), Pr q.1 := by intro q h; cases h
theorem forall_cons {q : Nat × Nat} {l : List (Nat × Nat)} (h : Pr q.1) (hl : ∀ q ∈ l, Pr q.1) : ∀ r ∈ q :: l, Pr r.1 := by
  intro r hr
  rcases List.mem_cons.1 hr with rfl | hr
  · exact h
  · exact hl r hr
theorem pr2 : Pr 2 := pr_small (by kernel_rfl)
theorem pr3 : Pr 3 := pr_small (by kernel_rfl)
theorem pr17 : Pr 17 := pr_small (by kernel_rfl)
theorem pr479 : Pr 479 := pr_small (by kernel_rfl)
theorem go32573 : Goes 32573 2 ∧ Pr 32573 := pratt [(2, 2), (17, 1), (479, 1)] (by kernel_rfl) (forall_cons pr2 (forall_cons pr17 (forall_cons pr479 forall_nil)))
theorem pr32573 : Pr 32573 := go32573.2
theorem go65147 : Goes 65147 2 ∧ Pr 65147 := pratt [(2, 1), (32573, 1)] (by kernel_rfl) (forall_cons pr2 (forall_cons pr32573 forall_nil))
theorem pr65147 : Pr 65147 := go65147.2
theorem pr353 : Pr 353 := pr_small (by kernel_rfl)
theorem pr59 : Pr 59 := pr_small (by kernel_rfl)
theorem pr487 : Pr 487 := pr_small (by kernel_rfl)
theorem go57467 : Goes 57467 2 ∧ Pr 57467 := pratt [(2, 1), (59, 1), (487, 1)] (by kernel_rfl) (forall_cons pr2 (forall_cons pr59 (forall_cons pr487 forall_nil)))
theorem pr57467 : Pr 57467 := go57467.2
theorem pr7 : Pr 7 := pr_small (by kernel_rfl)
theorem pr131 : Pr 131 := pr_small (by kernel_rfl)
theorem go132049 : Goes 132049 26 ∧ Pr 132049 := pratt [(2, 4), (3, 2), (7, 1), (131, 1)] (by kernel_rfl) (forall_cons pr2 (forall_cons pr3 (forall_cons pr7 (forall_cons pr131 forall_nil))))
theorem pr132049 : Pr 132049 := go132049.2
theorem pr43 : Pr 43 := pr_small (by kernel_rfl)
theorem pr23 : Pr 23 := pr_small (by kernel_rfl)
theorem go3727 : Goes 3727 3 ∧ Pr 3727 := pratt [(2, 1), (3, 4), (23, 1)] (by kernel_rfl) (forall_cons pr2 (forall_cons pr3 (forall_cons pr23 forall_nil)))
theorem pr3727 : Pr 3727 := go3727.2
theorem go1923133 : Goes 1923133 2 ∧ Pr 1923133 := pratt [(2, 2), (3, 1), (43, 1), (3727, 1)] (by kernel_rfl) (forall_cons pr2 (forall_cons pr3 (forall_cons pr43 (forall_cons pr3727 forall_nil))))
theorem pr1923133 : Pr 1923133 := go1923133.2
theorem pr31 : Pr 31 := pr_small (by kernel_rfl)
theorem pr107 : Pr 107 := pr_small (by kernel_rfl)
theorem pr223 : Pr 223 := pr_small (by kernel_rfl)
theorem pr173 : Pr 173 := pr_small (by kernel_rfl)
theorem go4153 : Goes 4153 5 ∧ Pr 4153 := pratt [(2, 3), (3, 1), (173, 1)] (by kernel_rfl) (forall_cons pr2 (forall_cons pr3 (forall_cons pr173 forall_nil)))
theorem pr4153 : Pr 4153 := go4153.2
theorem pr5 : Pr 5 := pr_small (by kernel_rfl)
theorem pr41 : Pr 41 := pr_small (by kernel_rfl)
theorem go1723 : Goes 1723 3 ∧ Pr 1723 := pratt [(2, 1), (3, 1), (7, 1), (41, 1)] (by kernel_rfl) (forall_cons pr2 (forall_cons pr3 (forall_cons pr7 (forall_cons pr41 forall_nil))))
theorem pr1723 : Pr 1723 := go1723.2
theorem go430751 : Goes 430751 17 ∧ Pr 430751 := pratt [(2, 1), (5, 3), (1723, 1)] (by kernel_rfl) (forall_cons pr2 (forall_cons pr5 (forall_cons pr1723 forall_nil)))
theorem pr430751 : Pr 430751 := go430751.2
theorem go31757755568855353 : Goes 31757755568855353 10 ∧ Pr 31757755568855353 := pratt [(2, 3), (3, 1), (31, 1), (107, 1), (223, 1), (4153, 1), (430751, 1)] (by kernel_rfl) (forall_cons pr2 (forall_cons pr3 (forall_cons pr31 (forall_cons pr107 (forall_cons pr223 (forall_cons pr4153 (forall_cons pr430751 forall_nil)))))))
theorem pr31757755568855353 : Pr 31757755568855353 := go31757755568855353.2
theorem pr19 : Pr 19 := pr_small (by kernel_rfl)
theorem pr83 : Pr 83 := pr_small (by kernel_rfl)
theorem go9463 : Goes 9463 3 ∧ Pr 9463 := pratt [(2, 1), (3, 1), (19, 1), (83, 1)] (by kernel_rfl) (forall_cons pr2 (forall_cons pr3 (forall_cons pr19 (forall_cons pr83 forall_nil))))
theorem pr9463 : Pr 9463 := go9463.2
theorem go37853 : Goes 37853 2 ∧ Pr 37853 := pratt [(2, 2), (9463, 1)] (by kernel_rfl) (forall_cons pr2 (forall_cons pr9463 forall_nil))
theorem pr37853 : Pr 37853 := go37853.2
theorem go75707 : Goes 75707 2 ∧ Pr 75707 := pratt [(2, 1), (37853, 1)] (by kernel_rfl) (forall_cons pr2 (forall_cons pr37853 forall_nil))
theorem pr75707 : Pr 75707 := go75707.2
theorem pr13 : Pr 13 := pr_small (by kernel_rfl)
theorem pr29 : Pr 29 := pr_small (by kernel_rfl)
theorem go2437 : Goes 2437 2 ∧ Pr 2437 := pratt [(2, 2), (3, 1), (7, 1), (29, 1)] (by kernel_rfl) (forall_cons pr2 (forall_cons pr3 (forall_cons pr7 (forall_cons pr29 forall_nil))))
theorem pr2437 : Pr 2437 := go2437.2
theorem pr97 : Pr 97 := pr_small (by kernel_rfl)
theorem pr419 : Pr 419 := pr_small (by kernel_rfl)
theorem go569003 : Goes 569003 2 ∧ Pr 569003 := pratt [(2, 1), (7, 1), (97, 1), (419, 1)] (by kernel_rfl) (forall_cons pr2 (forall_cons pr7 (forall_cons pr97 (forall_cons pr419 forall_nil))))
theorem pr569003 : Pr 569003 := go569003.2
theorem go2773320623 : Goes 2773320623 5 ∧ Pr 2773320623 := pratt [(2, 1), (2437, 1), (569003, 1)] (by kernel_rfl) (forall_cons pr2 (forall_cons pr2437 (forall_cons pr569003 forall_nil)))
theorem pr2773320623 : Pr 2773320623 := go2773320623.2
theorem go72106336199 : Goes 72106336199 7 ∧ Pr 72106336199 := pratt [(2, 1), (13, 1), (2773320623, 1)] (by kernel_rfl) (forall_cons pr2 (forall_cons pr13 (forall_cons pr2773320623 forall_nil)))
theorem pr72106336199 : Pr 72106336199 := go72106336199.2
theorem pr47 : Pr 47 := pr_small (by kernel_rfl)
theorem pr127 : Pr 127 := pr_small (by kernel_rfl)
theorem pr103 : Pr 103 := pr_small (by kernel_rfl)
theorem pr991 : Pr 991 := pr_small (by kernel_rfl)
theorem go8574133 : Goes 8574133 2 ∧ Pr 8574133 := pratt [(2, 2), (3, 1), (7, 1), (103, 1), (991, 1)] (by kernel_rfl) (forall_cons pr2 (forall_cons pr3 (forall_cons pr7 (forall_cons pr103 (forall_cons pr991 forall_nil)))))
theorem pr8574133 : Pr 8574133 := go8574133.2
theorem go1919519569386763 : Goes 1919519569386763 2 ∧ Pr 1919519569386763 := pratt [(2, 1), (3, 1), (7, 1), (19, 1), (47, 2), (127, 1), (8574133, 1)] (by kernel_rfl) (forall_cons pr2 (forall_cons pr3 (forall_cons pr7 (forall_cons pr19 (forall_cons pr47 (forall_cons pr127 (forall_cons pr8574133 forall_nil)))))))
theorem pr1919519569386763 : Pr 1919519569386763 := go1919519569386763.2
theorem go75445702479781427272750846543864801 : Goes 75445702479781427272750846543864801 7 ∧ Pr 75445702479781427272750846543864801 := pratt [(2, 5), (3, 2), (5, 2), (75707, 1), (72106336199, 1), (1919519569386763, 1)] (by kernel_rfl) (forall_cons pr2 (forall_cons pr3 (forall_cons pr5 (forall_cons pr75707 (forall_cons pr72106336199 (forall_cons pr1919519569386763 forall_nil))))))
theorem pr75445702479781427272750846543864801 : Pr 75445702479781427272750846543864801 := go75445702479781427272750846543864801.2
theorem go74058212732561358302231226437062788676166966415465897661863160754340907 : Goes 74058212732561358302231226437062788676166966415465897661863160754340907 2 ∧ Pr 74058212732561358302231226437062788676166966415465897661863160754340907 := pratt [(2, 1), (3, 1), (353, 1), (57467, 1), (132049, 1), (1923133, 1), (31757755568855353, 1), (75445702479781427272750846543864801, 1)] (by kernel_rfl) (forall_cons pr2 (forall_cons pr3 (forall_cons pr353 (forall_cons pr57467 (forall_cons pr132049 (forall_cons pr1923133 (forall_cons pr31757755568855353 (forall_cons pr75445702479781427272750846543864801 forall_nil))))))))
theorem pr74058212732561358302231226437062788676166966415465897661863160754340907 : Pr 74058212732561358302231226437062788676166966415465897661863160754340907 := go74058212732561358302231226437062788676166966415465897661863160754340907.2
theorem go57896044618658097711785492504343953926634992332820282019728792003956564819949 : Goes 57896044618658097711785492504343953926634992332820282019728792003956564819949 2 ∧ Pr 57896044618658097711785492504343953926634992332820282019728792003956564819949 := pratt [(2, 2), (3, 1), (65147, 1), (74058212732561358302231226437062788676166966415465897661863160754340907, 1)] (by kernel_rfl) (forall_cons pr2 (forall_cons pr3 (forall_cons pr65147 (forall_cons pr74058212732561358302231226437062788676166966415465897661863160754340907 forall_nil))))
theorem pr11 : Pr 11 := pr_small (by kernel_rfl)
theorem go34123 : Goes 34123 2 ∧ Pr 34123 := pratt [(2, 1), (3, 1), (11, 2), (47, 1)] (by kernel_rfl) (forall_cons pr2 (forall_cons pr3 (forall_cons pr11 (forall_cons pr47 forall_nil))))
theorem pr34123 : Pr 34123 := go34123.2
theorem go409477 : Goes 409477 2 ∧ Pr 409477 := pratt [(2, 2), (3, 1), (34123, 1)] (by kernel_rfl) (forall_cons pr2 (forall_cons pr3 (forall_cons pr34123 forall_nil)))
theorem pr409477 : Pr 409477 := go409477.2
theorem go14741173 : Goes 14741173 2 ∧ Pr 14741173 := pratt [(2, 2), (3, 2), (409477, 1)] (by kernel_rfl) (forall_cons pr2 (forall_cons pr3 (forall_cons pr409477 forall_nil)))
theorem pr14741173 : Pr 14741173 := go14741173.2
theorem go58964693 : Goes 58964693 2 ∧ Pr 58964693 := pratt [(2, 2), (14741173, 1)] (by kernel_rfl) (forall_cons pr2 (forall_cons pr14741173 forall_nil))
theorem pr58964693 : Pr 58964693 := go58964693.2
theorem go30703 : Goes 30703 3 ∧ Pr 30703 := pratt [(2, 1), (3, 1), (7, 1), (17, 1), (43, 1)] (by kernel_rfl) (forall_cons pr2 (forall_cons pr3 (forall_cons pr7 (forall_cons pr17 (forall_cons pr43 forall_nil)))))
theorem pr30703 : Pr 30703 := go30703.2
theorem pr79 : Pr 79 := pr_small (by kernel_rfl)
theorem go41081 : Goes 41081 3 ∧ Pr 41081 := pratt [(2, 3), (5, 1), (13, 1), (79, 1)] (by kernel_rfl) (forall_cons pr2 (forall_cons pr5 (forall_cons pr13 (forall_cons pr79 forall_nil))))
theorem pr41081 : Pr 41081 := go41081.2
theorem go82163 : Goes 82163 2 ∧ Pr 82163 := pratt [(2, 1), (41081, 1)] (by kernel_rfl) (forall_cons pr2 (forall_cons pr41081 forall_nil))
theorem pr82163 : Pr 82163 := go82163.2
theorem pr67 : Pr 67 := pr_small (by kernel_rfl)
theorem go22111 : Goes 22111 6 ∧ Pr 22111 := pratt [(2, 1), (3, 1), (5, 1), (11, 1), (67, 1)] (by kernel_rfl) (forall_cons pr2 (forall_cons pr3 (forall_cons pr5 (forall_cons pr11 (forall_cons pr67 forall_nil)))))
theorem pr22111 : Pr 22111 := go22111.2
theorem go132667 : Goes 132667 5 ∧ Pr 132667 := pratt [(2, 1), (3, 1), (22111, 1)] (by kernel_rfl) (forall_cons pr2 (forall_cons pr3 (forall_cons pr22111 forall_nil)))
theorem pr132667 : Pr 132667 := go132667.2
theorem go17231 : Goes 17231 13 ∧ Pr 17231 := pratt [(2, 1), (5, 1), (1723, 1)] (by kernel_rfl) (forall_cons pr2 (forall_cons pr5 (forall_cons pr1723 forall_nil)))
theorem pr17231 : Pr 17231 := go17231.2
theorem go137849 : Goes 137849 3 ∧ Pr 137849 := pratt [(2, 3), (17231, 1)] (by kernel_rfl) (forall_cons pr2 (forall_cons pr17231 forall_nil))
theorem pr137849 : Pr 137849 := go137849.2
theorem go3044861653679985063343 : Goes 3044861653679985063343 5 ∧ Pr 3044861653679985063343 := pratt [(2, 1), (3, 1), (11, 1), (30703, 1), (82163, 1), (132667, 1), (137849, 1)] (by kernel_rfl) (forall_cons pr2 (forall_cons pr3 (forall_cons pr11 (forall_cons pr30703 (forall_cons pr82163 (forall_cons pr132667 (forall_cons pr137849 forall_nil)))))))
theorem pr3044861653679985063343 : Pr 3044861653679985063343 := go3044861653679985063343.2
theorem go198211423230930754013084525763697 : Goes 198211423230930754013084525763697 5 ∧ Pr 198211423230930754013084525763697 := pratt [(2, 4), (3, 1), (23, 1), (58964693, 1), (3044861653679985063343, 1)] (by kernel_rfl) (forall_cons pr2 (forall_cons pr3 (forall_cons pr23 (forall_cons pr58964693 (forall_cons pr3044861653679985063343 forall_nil)))))
theorem pr198211423230930754013084525763697 : Pr 198211423230930754013084525763697 := go198211423230930754013084525763697.2
theorem pr269 : Pr 269 := pr_small (by kernel_rfl)
theorem pr73 : Pr 73 := pr_small (by kernel_rfl)
theorem pr307 : Pr 307 := pr_small (by kernel_rfl)
theorem pr113 : Pr 113 := pr_small (by kernel_rfl)
theorem go2939 : Goes 2939 2 ∧ Pr 2939 := pratt [(2, 1), (13, 1), (113, 1)] (by kernel_rfl) (forall_cons pr2 (forall_cons pr13 (forall_cons pr113 forall_nil)))
theorem pr2939 : Pr 2939 := go2939.2
theorem go5879 : Goes 5879 11 ∧ Pr 5879 := pratt [(2, 1), (2939, 1)] (by kernel_rfl) (forall_cons pr2 (forall_cons pr2939 forall_nil))
theorem pr5879 : Pr 5879 := go5879.2
theorem go292386187 : Goes 292386187 2 ∧ Pr 292386187 := pratt [(2, 1), (3, 4), (307, 1), (5879, 1)] (by kernel_rfl) (forall_cons pr2 (forall_cons pr3 (forall_cons pr307 (forall_cons pr5879 forall_nil))))
theorem pr292386187 : Pr 292386187 := go292386187.2
theorem go213441916511 : Goes 213441916511 13 ∧ Pr 213441916511 := pratt [(2, 1), (5, 1), (73, 1), (292386187, 1)] (by kernel_rfl) (forall_cons pr2 (forall_cons pr5 (forall_cons pr73 (forall_cons pr292386187 forall_nil))))
theorem pr213441916511 : Pr 213441916511 := go213441916511.2
theorem go1361 : Goes 1361 3 ∧ Pr 1361 := pratt [(2, 4), (5, 1), (17, 1)] (by kernel_rfl) (forall_cons pr2 (forall_cons pr5 (forall_cons pr17 forall_nil)))
theorem pr1361 : Pr 1361 := go1361.2
theorem go2851 : Goes 2851 2 ∧ Pr 2851 := pratt [(2, 1), (3, 1), (5, 2), (19, 1)] (by kernel_rfl) (forall_cons pr2 (forall_cons pr3 (forall_cons pr5 (forall_cons pr19 forall_nil))))
theorem pr2851 : Pr 2851 := go2851.2
theorem go3797 : Goes 3797 2 ∧ Pr 3797 := pratt [(2, 2), (13, 1), (73, 1)] (by kernel_rfl) (forall_cons pr2 (forall_cons pr13 (forall_cons pr73 forall_nil)))
theorem pr3797 : Pr 3797 := go3797.2
theorem go531581 : Goes 531581 2 ∧ Pr 531581 := pratt [(2, 2), (5, 1), (7, 1), (3797, 1)] (by kernel_rfl) (forall_cons pr2 (forall_cons pr5 (forall_cons pr7 (forall_cons pr3797 forall_nil))))
theorem pr531581 : Pr 531581 := go531581.2
theorem go2551 : Goes 2551 6 ∧ Pr 2551 := pratt [(2, 1), (3, 1), (5, 2), (17, 1)] (by kernel_rfl) (forall_cons pr2 (forall_cons pr3 (forall_cons pr5 (forall_cons pr17 forall_nil))))
theorem pr2551 : Pr 2551 := go2551.2
theorem go1224481 : Goes 1224481 13 ∧ Pr 1224481 := pratt [(2, 5), (3, 1), (5, 1), (2551, 1)] (by kernel_rfl) (forall_cons pr2 (forall_cons pr3 (forall_cons pr5 (forall_cons pr2551 forall_nil))))
theorem pr1224481 : Pr 1224481 := go1224481.2
theorem go1257559732178653 : Goes 1257559732178653 2 ∧ Pr 1257559732178653 := pratt [(2, 2), (3, 1), (7, 1), (23, 1), (531581, 1), (1224481, 1)] (by kernel_rfl) (forall_cons pr2 (forall_cons pr3 (forall_cons pr7 (forall_cons pr23 (forall_cons pr531581 (forall_cons pr1224481 forall_nil))))))
theorem pr1257559732178653 : Pr 1257559732178653 := go1257559732178653.2
theorem go4434155615661930479 : Goes 4434155615661930479 17 ∧ Pr 4434155615661930479 := pratt [(2, 1), (41, 1), (43, 1), (1257559732178653, 1)] (by kernel_rfl) (forall_cons pr2 (forall_cons pr41 (forall_cons pr43 (forall_cons pr1257559732178653 forall_nil))))
theorem pr4434155615661930479 : Pr 4434155615661930479 := go4434155615661930479.2
theorem go172054593956031949258510691 : Goes 172054593956031949258510691 2 ∧ Pr 172054593956031949258510691 := pratt [(2, 1), (5, 1), (1361, 1), (2851, 1), (4434155615661930479, 1)] (by kernel_rfl) (forall_cons pr2 (forall_cons pr5 (forall_cons pr1361 (forall_cons pr2851 (forall_cons pr4434155615661930479 forall_nil)))))
theorem pr172054593956031949258510691 : Pr 172054593956031949258510691 := go172054593956031949258510691.2
theorem go19757330305831588566944191468367130476339 : Goes 19757330305831588566944191468367130476339 2 ∧ Pr 19757330305831588566944191468367130476339 := pratt [(2, 1), (269, 1), (213441916511, 1), (172054593956031949258510691, 1)] (by kernel_rfl) (forall_cons pr2 (forall_cons pr269 (forall_cons pr213441916511 (forall_cons pr172054593956031949258510691 forall_nil))))
theorem pr19757330305831588566944191468367130476339 : Pr 19757330305831588566944191468367130476339 := go19757330305831588566944191468367130476339.2
theorem go276602624281642239937218680557139826668747 : Goes 276602624281642239937218680557139826668747 2 ∧ Pr 276602624281642239937218680557139826668747 := pratt [(2, 1), (7, 1), (19757330305831588566944191468367130476339, 1)] (by kernel_rfl) (forall_cons pr2 (forall_cons pr7 (forall_cons pr19757330305831588566944191468367130476339 forall_nil)))
theorem pr276602624281642239937218680557139826668747 : Pr 276602624281642239937218680557139826668747 := go276602624281642239937218680557139826668747.2
theorem go7237005577332262213973186563042994240857116359379907606001950938285454250989 : Goes 7237005577332262213973186563042994240857116359379907606001950938285454250989 2 ∧ Pr 7237005577332262213973186563042994240857116359379907606001950938285454250989 := pratt [(2, 2), (3, 1), (11, 1), (198211423230930754013084525763697, 1), (276602624281642239937218680557139826668747, 1)] (by kernel_rfl) (forall_cons pr2 (forall_cons pr3 (forall_cons pr11 (forall_cons pr198211423230930754013084525763697 (forall_cons pr276602624281642239937218680557139826668747 forall_nil)))))
theorem pr7237005577332262213973186563042994240857116359379907606001950938285454250989 : Pr 7237005577332262213973186563042994240857116359379907606001950938285454250989 := go7237005577332262213973186563042994240857116359379907606001950938285454250989.2
end Go.PBYtabmfndiepmcgaa
end
section
namespace Go.PBYtabmfndiepmcgaa
open Go Go.RowKit
set_option linter.unusedVariables false
instance instNZp : NeZero pN := ⟨by unfold pN; omega⟩
abbrev Fp := Fin pN
def fz (x : Int) : Fp := ⟨(x % pZ).toNat, by
  have h1 : 0 ≤ x % pZ := Int.emod_nonneg _ (by decide)
  have h2 : x % pZ < pZ := Int.emod_lt_of_pos _ (by decide)
  unfold pN
  simp only [pZ] at *
  omega⟩
theorem fz_val (x : Int) : ((fz x).val : Int) = x % pZ := by
  have h1 : 0 ≤ x % pZ := Int.emod_nonneg _ (by decide)
  show ((x % pZ).toNat : Int) = x % pZ
  omega
theorem fz_eq {x y : Int} (h : x % pZ = y % pZ) : fz x = fz y := by
  apply Fin.ext
  show (x % pZ).toNat = (y % pZ).toNat
  rw [h]
theorem fp_ext {a b : Fp} (h : (a.val : Int) = (b.val : Int)) : a = b := Fin.ext (by omega)
theorem fz_add (x y : Int) : fz (x + y) = fz x + fz y := by
  apply fp_ext
  rw [fz_val, Fin.val_add, Int.natCast_emod, Int.natCast_add, fz_val, fz_val]
  exact Int.add_emod x y pZ
theorem fz_mul (x y : Int) : fz (x * y) = fz x * fz y := by
  apply fp_ext
  rw [fz_val, Fin.val_mul, Int.natCast_emod, Int.natCast_mul, fz_val, fz_val]
  exact Int.mul_emod x y pZ
theorem fz_sub (x y : Int) : fz (x - y) = fz x - fz y := by
  have h : fz (x - y) + fz y = fz x := by rw [← fz_add, Int.sub_add_cancel]
  rw [← h]
  grind
theorem fz_of (a : Fp) : fz (a.val : Int) = a := by
  apply fp_ext
  rw [fz_val]
  have := a.isLt
  unfold pN at this
  simp only [pZ]
  omega
/-! ### what a number times comes to 1 -/
def finv (a : Fp) : Fp := fz ((a.val : Int) ^ (pN - 2))
theorem fz_pow (x : Int) : ∀ n : Nat, fz (x ^ n) = fz (((fz x).val : Int) ^ n)
  | 0 => by rw [Int.pow_zero, Int.pow_zero]
  | n + 1 => by rw [Int.pow_succ, Int.pow_succ, fz_mul, fz_mul, ← fz_pow x n, fz_of]
theorem finv_fz (x : Int) : fz (x ^ (pN - 2)) = finv (fz x) := fz_pow x _
theorem goP : Goes pN 2 := go57896044618658097711785492504343953926634992332820282019728792003956564819949.1
theorem mul_finv {a : Fp} (h : a ≠ 0) : a * finv a = 1 := by
  have h1 : a.val % pN ≠ 0 := by
    rw [Nat.mod_eq_of_lt a.isLt]
    intro h0
    exact h (Fin.ext h0)
  have h2 : a.val ^ (pN - 1) % pN = 1 := goP.fermat (by unfold pN; omega) a.val h1
  have e : a = fz (a.val : Int) := (fz_of a).symm
  have e2 : a * finv a = fz ((a.val : Int) * (a.val : Int) ^ (pN - 2)) := by rw [fz_mul, fz_of]; rfl
  rw [e2]
  have e3 : (a.val : Int) * (a.val : Int) ^ (pN - 2) = ((a.val ^ (pN - 1) : Nat) : Int) := by
    rw [Int.mul_comm, ← Int.pow_succ, show (pN - 2).succ = pN - 1 by unfold pN; omega, Int.natCast_pow]
  rw [e3]
  apply fp_ext
  rw [fz_val]
  have h3 : ((a.val ^ (pN - 1) % pN : Nat) : Int) = ((1 : Nat) : Int) := congrArg (fun x : Nat => (x : Int)) h2
  rw [Int.natCast_emod] at h3
  exact h3
theorem finv_zero : finv 0 = 0 := by
  have e : (((0 : Fp).val : Int)) ^ (pN - 2) = 0 := by
    rw [show pN - 2 = (pN - 3) + 1 by unfold pN; omega, Int.pow_succ]
    exact Int.mul_zero _
  unfold finv
  rw [e]
  rfl
theorem fp_one_ne : (1 : Fp) ≠ 0 := by decide
theorem mul_zero_or {a b : Fp} (h : a * b = 0) : a = 0 ∨ b = 0 := by
  by_cases ha : a = 0
  · exact .inl ha
  · right
    have := mul_finv ha
    grind
theorem finv_unique {a b : Fp} (h : a * b = 1) : finv a = b := by
  have ha : a ≠ 0 := by rintro rfl; have := fp_one_ne; grind
  have := mul_finv ha
  grind
theorem finv_ne {a : Fp} (h : a ≠ 0) : finv a ≠ 0 := by
  intro h0
  have := mul_finv h
  rw [h0] at this
  have h1 := fp_one_ne
  grind
/-! ### lists as such numbers -/
def ef (e : List Int) : Fp := fz (valI e)
def rf (n : List Nat) : Fp := fz (valI (cz n))
/-- the number of bytes -/
def lf (k : List UInt8) : Fp := fz (leZ k % 57896044618658097711785492504343953926634992332820282019728792003956564819968)
/-- the bytes of a number -/
def kf (a : Fp) : List UInt8 := bN 32 a.val
theorem kf_length (a : Fp) : (kf a).length = 32 := bN_length 32 _
theorem keyL_kf {e : List Int} (h : okE e) : keyL e = kf (ef e) := keyL_V h
theorem ef_addL {e f : List Int} (he : okE e) (hf : okE f) : ef (addL e f) = ef e + ef f := by rw [ef, fz_eq (addL_val he hf), fz_add]; rfl
theorem ef_subL {e f : List Int} (he : okE e) (hf : okE f) : ef (subL e f) = ef e - ef f := by rw [ef, fz_eq (subL_val he hf), fz_sub]; rfl
theorem ef_mulL {e f : List Int} (he : okE e) (hf : okE f) : ef (mulL e f) = ef e * ef f := by rw [ef, fz_eq (mulL_val he hf), fz_mul]; rfl
theorem ef_invL {e : List Int} (he : okE e) : ef (invL e) = finv (ef e) := by rw [ef, fz_eq (invL_val he), finv_fz]; rfl
theorem ef_ofL {k : List UInt8} (hk : k.length = 32) : ef (ofL k) = lf k := by rw [ef, ofL_val hk]; rfl
theorem rf_addL {a b : List Nat} (ha : digN a) (hb : digN b) : rf (raddL a b) = rf a + rf b := by rw [rf, fz_eq (raddL_val ha hb), fz_add]; rfl
theorem rf_subL {a b : List Nat} (ha : digN a) (hb : digN b) : rf (rsubL a b) = rf a - rf b := by rw [rf, fz_eq (rsubL_val ha hb), fz_sub]; rfl
theorem rf_mulL {a b : List Nat} (ha : digN a) (hb : digN b) : rf (rmulL a b) = rf a * rf b := by rw [rf, fz_eq (rmulL_val ha hb), fz_mul]; rfl
theorem rf_invL {a : List Nat} (ha : digN a) : rf (rinvL a) = finv (rf a) := by rw [rf, fz_eq (rinvL_val ha), finv_fz]; rfl
theorem rf_ofL {k : List UInt8} (hk : k.length = 32) : rf (rofL k) = lf k := by rw [rf, cz_rofL]; exact ef_ofL hk
theorem keyR_kf (n : List Nat) : keyV (valI (cz n)) = kf (rf n) := rfl
theorem leZ_kf (a : Fp) : leZ (kf a) = (a.val : Int) := by
  refine leZ_bN 32 a.val ?_
  have := a.isLt
  unfold pN at this
  have e : (256 : Nat) ^ 32 = 115792089237316195423570985008687907853269984665640564039457584007913129639936 := by decide
  omega
theorem lf_kf (a : Fp) : lf (kf a) = a := by
  have := a.isLt
  unfold pN at this
  rw [lf, leZ_kf, Int.emod_eq_of_lt (by omega) (by omega), fz_of]
/-- a small number's bytes -/
def smallB (x : UInt8) : List UInt8 := x :: List.replicate 31 0
theorem smallB_length (x : UInt8) : (smallB x).length = 32 := by simp [smallB]
theorem lf_small (x : UInt8) : lf (smallB x) = fz (x.toNat : Int) := by
  have := UInt8.toNat_lt x
  rw [lf, smallB, leZ, leZ_rep]
  congr 1
  omega
end Go.PBYtabmfndiepmcgaa
end
section
namespace Go.PBYtabmfndiepmcgaa
open Go Go.RowKit
set_option linter.unusedVariables false
set_option maxRecDepth 10000
/-- two and two, in the other order, or not -/
def sw {α : Type} (s : Bool) (q : α × α × α × α) : α × α × α × α := if s then (q.2.1, q.1, q.2.2.2, q.2.2.1) else q
def stepC {α : Type} (add sub mul : α → α → α) (x g : α) (q : α × α × α × α) : α × α × α × α :=
  (mul (mul (add q.1 q.2.2.1) (add q.1 q.2.2.1)) (mul (sub q.1 q.2.2.1) (sub q.1 q.2.2.1)),
   mul (add (mul (sub q.2.1 q.2.2.2) (add q.1 q.2.2.1)) (mul (add q.2.1 q.2.2.2) (sub q.1 q.2.2.1))) (add (mul (sub q.2.1 q.2.2.2) (add q.1 q.2.2.1)) (mul (add q.2.1 q.2.2.2) (sub q.1 q.2.2.1))),
   mul (sub (mul (add q.1 q.2.2.1) (add q.1 q.2.2.1)) (mul (sub q.1 q.2.2.1) (sub q.1 q.2.2.1))) (add (mul (add q.1 q.2.2.1) (add q.1 q.2.2.1)) (mul g (sub (mul (add q.1 q.2.2.1) (add q.1 q.2.2.1)) (mul (sub q.1 q.2.2.1) (sub q.1 q.2.2.1))))),
   mul x (mul (sub (mul (sub q.2.1 q.2.2.2) (add q.1 q.2.2.1)) (mul (add q.2.1 q.2.2.2) (sub q.1 q.2.2.1))) (sub (mul (sub q.2.1 q.2.2.2) (add q.1 q.2.2.1)) (mul (add q.2.1 q.2.2.2) (sub q.1 q.2.2.1)))))
/-- so many steps, by the bits from the 254th down -/
def ladC {α : Type} (add sub mul : α → α → α) (x g : α) (s : Nat → Bool) (q : α × α × α × α) : Nat → α × α × α × α
  | 0 => q
  | j + 1 => sw (s (254 - j)) (stepC add sub mul x g (sw (s (254 - j)) (ladC add sub mul x g s q j)))
def all4 {α : Type} (P : α → Prop) (q : α × α × α × α) : Prop := P q.1 ∧ P q.2.1 ∧ P q.2.2.1 ∧ P q.2.2.2
def map4 {α β : Type} (f : α → β) (q : α × α × α × α) : β × β × β × β := (f q.1, f q.2.1, f q.2.2.1, f q.2.2.2)
theorem sw_all {α : Type} {P : α → Prop} {q : α × α × α × α} (s : Bool) (h : all4 P q) : all4 P (sw s q) := by
  obtain ⟨h1, h2, h3, h4⟩ := h
  cases s
  · exact ⟨h1, h2, h3, h4⟩
  · exact ⟨h2, h1, h4, h3⟩
theorem sw_map {α β : Type} (f : α → β) (s : Bool) (q : α × α × α × α) : map4 f (sw s q) = sw s (map4 f q) := by cases s <;> rfl
theorem stepC_all {α : Type} {add sub mul : α → α → α} {P : α → Prop} (ha : ∀ a b, P a → P b → P (add a b)) (hs : ∀ a b, P a → P b → P (sub a b)) (hm : ∀ a b, P a → P b → P (mul a b))
    {x g : α} (hx : P x) (hg : P g) {q : α × α × α × α} (h : all4 P q) : all4 P (stepC add sub mul x g q) := by
  obtain ⟨h1, h2, h3, h4⟩ := h
  have e := ha _ _ h1 h3
  have f := hs _ _ h1 h3
  have u := hm _ _ e e
  have v := hm _ _ f f
  have w := hs _ _ u v
  have y := hm _ _ (hs _ _ h2 h4) e
  have z := hm _ _ (ha _ _ h2 h4) f
  have p := ha _ _ y z
  have l := hs _ _ y z
  exact ⟨hm _ _ u v, hm _ _ p p, hm _ _ w (ha _ _ u (hm _ _ hg w)), hm _ _ hx (hm _ _ l l)⟩
theorem stepC_map {α β : Type} {add sub mul : α → α → α} {add' sub' mul' : β → β → β} {P : α → Prop} {r : α → β}
    (ha : ∀ a b, P a → P b → P (add a b)) (hs : ∀ a b, P a → P b → P (sub a b)) (hm : ∀ a b, P a → P b → P (mul a b))
    (ra : ∀ a b, P a → P b → r (add a b) = add' (r a) (r b)) (rs : ∀ a b, P a → P b → r (sub a b) = sub' (r a) (r b)) (rm : ∀ a b, P a → P b → r (mul a b) = mul' (r a) (r b))
    {x g : α} (hx : P x) (hg : P g) {q : α × α × α × α} (h : all4 P q) : map4 r (stepC add sub mul x g q) = stepC add' sub' mul' (r x) (r g) (map4 r q) := by
  obtain ⟨h1, h2, h3, h4⟩ := h
  have e := ha _ _ h1 h3
  have f := hs _ _ h1 h3
  have u := hm _ _ e e
  have v := hm _ _ f f
  have w := hs _ _ u v
  have y := hm _ _ (hs _ _ h2 h4) e
  have z := hm _ _ (ha _ _ h2 h4) f
  have p := ha _ _ y z
  have l := hs _ _ y z
  have ll := hm _ _ l l
  have gw := hm _ _ hg w
  have ug := ha _ _ u gw
  have b1 := hs _ _ h2 h4
  have b2 := ha _ _ h2 h4
  unfold map4 stepC
  simp only [ra _ _ h1 h3, rs _ _ h1 h3, rm _ _ e e, rm _ _ f f, rs _ _ u v, rs _ _ h2 h4, ra _ _ h2 h4, rm _ _ b1 e, rm _ _ b2 f, ra _ _ y z, rs _ _ y z, rm _ _ u v, rm _ _ p p, rm _ _ hg w, ra _ _ u gw, rm _ _ w ug, rm _ _ l l, rm _ _ hx ll]
theorem ladC_all {α : Type} {add sub mul : α → α → α} {P : α → Prop} (ha : ∀ a b, P a → P b → P (add a b)) (hs : ∀ a b, P a → P b → P (sub a b)) (hm : ∀ a b, P a → P b → P (mul a b))
    {x g : α} (hx : P x) (hg : P g) (s : Nat → Bool) {q : α × α × α × α} (h : all4 P q) : ∀ j, all4 P (ladC add sub mul x g s q j)
  | 0 => h
  | j + 1 => sw_all _ (stepC_all ha hs hm hx hg (sw_all _ (ladC_all ha hs hm hx hg s h j)))
theorem ladC_map {α β : Type} {add sub mul : α → α → α} {add' sub' mul' : β → β → β} {P : α → Prop} {r : α → β}
    (ha : ∀ a b, P a → P b → P (add a b)) (hs : ∀ a b, P a → P b → P (sub a b)) (hm : ∀ a b, P a → P b → P (mul a b))
    (ra : ∀ a b, P a → P b → r (add a b) = add' (r a) (r b)) (rs : ∀ a b, P a → P b → r (sub a b) = sub' (r a) (r b)) (rm : ∀ a b, P a → P b → r (mul a b) = mul' (r a) (r b))
    {x g : α} (hx : P x) (hg : P g) (s : Nat → Bool) {q : α × α × α × α} (h : all4 P q) : ∀ j, map4 r (ladC add sub mul x g s q j) = ladC add' sub' mul' (r x) (r g) s (map4 r q) j
  | 0 => rfl
  | j + 1 => by
    have h1 := sw_all (s (254 - j)) (ladC_all ha hs hm hx hg s h j)
    rw [ladC, ladC, sw_map, stepC_map ha hs hm ra rs rm hx hg h1, sw_map, ladC_map ha hs hm ra rs rm hx hg s h j]
/-! ### over the program's numbers, the document's, and the field -/
abbrev ladL (x g : List Int) := ladC addL subL mulL x g
abbrev ladR (x g : List Nat) := ladC raddL rsubL rmulL x g
abbrev ladF (x g : Fp) := ladC (fun a b : Fp => a + b) (fun a b => a - b) (fun a b => a * b) x g
def g24 : Fp := fz 121665
def beg (x : Fp) : Fp × Fp × Fp × Fp := (1, x, 0, 1)
/-- the number of a point, so often as the bits say -/
def xm (s : Nat → Bool) (x : Fp) : Fp := (ladF x g24 s (beg x) 255).1 * finv (ladF x g24 s (beg x) 255).2.2.1
theorem ladL_ok {x g : List Int} (hx : okE x) (hg : okE g) (s : Nat → Bool) {q : List Int × List Int × List Int × List Int} (h : all4 okE q) (j : Nat) : all4 okE (ladL x g s q j) :=
  ladC_all (P := okE) (add := addL) (sub := subL) (mul := mulL) (fun a b h1 h2 => addL_okE h1 h2) (fun a b h1 h2 => subL_okE h1 h2) (fun a b h1 h2 => mulL_okE h1 h2) hx hg s h j
theorem ladR_ok {x g : List Nat} (hx : digN x) (hg : digN g) (s : Nat → Bool) {q : List Nat × List Nat × List Nat × List Nat} (h : all4 digN q) (j : Nat) : all4 digN (ladR x g s q j) :=
  ladC_all (P := digN) (add := raddL) (sub := rsubL) (mul := rmulL) (fun a b h1 h2 => raddL_dig h1 h2) (fun a b h1 h2 => rsubL_dig h1 h2) (fun a b h1 h2 => rmulL_dig h1 h2) hx hg s h j
theorem ladL_ef {x g : List Int} (hx : okE x) (hg : okE g) (s : Nat → Bool) {q : List Int × List Int × List Int × List Int} (h : all4 okE q) (j : Nat) : map4 ef (ladL x g s q j) = ladF (ef x) (ef g) s (map4 ef q) j :=
  ladC_map (P := okE) (fun a b => addL_okE) (fun a b => subL_okE) (fun a b => mulL_okE) (fun a b => ef_addL) (fun a b => ef_subL) (fun a b => ef_mulL) hx hg s h j
theorem ladR_rf {x g : List Nat} (hx : digN x) (hg : digN g) (s : Nat → Bool) {q : List Nat × List Nat × List Nat × List Nat} (h : all4 digN q) (j : Nat) : map4 rf (ladR x g s q j) = ladF (rf x) (rf g) s (map4 rf q) j :=
  ladC_map (P := digN) (fun a b => raddL_dig) (fun a b => rsubL_dig) (fun a b => rmulL_dig) (fun a b => rf_addL) (fun a b => rf_subL) (fun a b => rf_mulL) hx hg s h j
/-! ### the bits of a secret -/
/-- the bit, where the secret's number has one -/
def sbit (k : List UInt8) (i : Nat) : Bool := if i < 3 ∨ i = 255 then false else if i = 254 then true else (k.getD (i / 8) 0).toNat / 2 ^ (i % 8) % 2 == 1
def clampB (k : List UInt8) : List UInt8 := (k.set 0 (k.getD 0 0 &&& 248)).set 31 (k.getD 31 0 &&& 127 ||| 64)
theorem clampB_length (k : List UInt8) : (clampB k).length = k.length := by simp [clampB]
theorem bit_low : ∀ (x : Fin 256) (j : Fin 8), ((UInt8.ofNat x.val &&& 248).toNat / 2 ^ j.val % 2 == 1) = (if j.val < 3 then false else (UInt8.ofNat x.val).toNat / 2 ^ j.val % 2 == 1) := by decide +kernel
theorem bit_high : ∀ (x : Fin 256) (j : Fin 7), ((UInt8.ofNat x.val &&& 127 ||| 64).toNat / 2 ^ j.val % 2 == 1) = (if j.val = 6 then true else (UInt8.ofNat x.val).toNat / 2 ^ j.val % 2 == 1) := by decide +kernel
theorem u8_fin (x : UInt8) : ∃ y : Fin 256, x = UInt8.ofNat y.val := ⟨⟨x.toNat, UInt8.toNat_lt x⟩, by simp⟩
theorem clampB_bit {k : List UInt8} (hk : k.length = 32) {i : Nat} (hi : i ≤ 254) : ((((clampB k).getD (i / 8) 0).toNat / 2 ^ (i % 8) % 2 == 1) : Bool) = sbit k i := by
  have e31 : (clampB k).getD 31 0 = k.getD 31 0 &&& 127 ||| 64 := by
    unfold clampB
    rw [getD_set _ _ _ _ _ (by simp; omega), if_pos rfl]
  have e0 : (clampB k).getD 0 0 = k.getD 0 0 &&& 248 := by
    unfold clampB
    rw [getD_set _ _ _ _ _ (by simp; omega), if_neg (by omega), getD_set _ _ _ _ _ (by omega), if_pos rfl]
  have em : ∀ j, 0 < j → j < 31 → (clampB k).getD j 0 = k.getD j 0 := by
    intro j h1 h2
    unfold clampB
    rw [getD_set _ _ _ _ _ (by simp; omega), if_neg (by omega), getD_set _ _ _ _ _ (by omega), if_neg (by omega)]
  unfold sbit
  by_cases h1 : i / 8 = 0
  · obtain ⟨x, hx⟩ := u8_fin (k.getD 0 0)
    have hj : i % 8 = i := by omega
    have := bit_low x ⟨i % 8, by omega⟩
    rw [h1, e0, hx, this]
    simp only
    by_cases h3 : i < 3
    · rw [if_pos (by omega), if_pos (by omega)]
    · rw [if_neg (by omega), if_neg (by omega), if_neg (by omega)]
  · by_cases h2 : i / 8 = 31
    · obtain ⟨x, hx⟩ := u8_fin (k.getD 31 0)
      have := bit_high x ⟨i % 8, by omega⟩
      rw [h2, e31, hx, this]
      simp only
      rw [if_neg (by omega : ¬ (i < 3 ∨ i = 255))]
      by_cases h3 : i = 254
      · rw [if_pos (by omega), if_pos h3]
      · rw [if_neg (by omega), if_neg h3]
    · rw [em _ (by omega) (by omega), if_neg (by omega), if_neg (by omega)]
/-! ### of 0 nothing comes but 0; numbers that are shown by the same bytes -/
theorem sw_zero (s : Bool) {q : Fp × Fp × Fp × Fp} (h : q.1 * q.2.2.1 = 0 ∧ q.2.1 * q.2.2.2 = 0) : (sw s q).1 * (sw s q).2.2.1 = 0 ∧ (sw s q).2.1 * (sw s q).2.2.2 = 0 := by
  cases s
  · exact h
  · exact ⟨h.2, h.1⟩
theorem stepC_zero (g : Fp) {q : Fp × Fp × Fp × Fp} (h : q.1 * q.2.2.1 = 0) : (stepC (fun a b : Fp => a + b) (fun a b => a - b) (fun a b => a * b) 0 g q).2.2.1 = 0 ∧ (stepC (fun a b : Fp => a + b) (fun a b => a - b) (fun a b => a * b) 0 g q).2.2.2 = 0 := by
  obtain ⟨a, b, c, d⟩ := q
  simp only at h
  constructor
  · have hw : (a + c) * (a + c) - (a - c) * (a - c) = 0 := by grind
    show ((a + c) * (a + c) - (a - c) * (a - c)) * _ = 0
    rw [hw]; grind
  · show (0 : Fp) * _ = 0
    grind
theorem ladF_zero (g : Fp) (s : Nat → Bool) : ∀ j, (ladF 0 g s (beg 0) (j + 1)).2.2.1 = 0 ∧ (ladF 0 g s (beg 0) (j + 1)).2.2.2 = 0 := by
  have key : ∀ j, (ladF 0 g s (beg 0) j).1 * (ladF 0 g s (beg 0) j).2.2.1 = 0 ∧ (ladF 0 g s (beg 0) j).2.1 * (ladF 0 g s (beg 0) j).2.2.2 = 0 := by
    intro j
    induction j with
    | zero => exact ⟨by show (1 : Fp) * 0 = 0; decide, by show (0 : Fp) * 1 = 0; decide⟩
    | succ j ih =>
      have h1 := stepC_zero g (sw_zero (s (254 - j)) ih).1
      refine sw_zero _ ⟨?_, ?_⟩
      · rw [h1.1]; grind
      · rw [h1.2]; grind
  intro j
  have h1 := stepC_zero g (sw_zero (s (254 - j)) (key j)).1
  unfold ladF at h1 ⊢
  rw [ladC]
  generalize s (254 - j) = b at h1 ⊢
  cases b
  · exact h1
  · exact ⟨h1.2, h1.1⟩
theorem xm_zero (s : Nat → Bool) : xm s 0 = 0 := by
  unfold xm
  rw [(ladF_zero g24 s 254).1, finv_zero]
  grind
end Go.PBYtabmfndiepmcgaa
end
section
namespace Go.Proofs.Ytabmfndiepmcgaa
open Go.RowKit Go.PBYtabmfndiepmcgaa
set_option linter.unusedVariables false
set_option linter.unusedSimpArgs false
set_option maxRecDepth 10000
set_option maxHeartbeats 1000000 in
theorem clamped_calls (k : List UInt8) (hk : k.length = 32) (w : World) :
    Calls Try.prog 44 #[.agg (bys k).toArray] w fun e w' => e = .returned (.agg (bys (clampB k)).toArray) ∧ Kept [] w w' := by
  have hcl := (clampB_length k).trans hk
  have hk1 : (k.set 0 (k.getD 0 0 &&& 248)).length = 32 := by rw [List.length_set]; exact hk
  have h31 : (k.set 0 (k.getD 0 0 &&& 248)).getD 31 0 = k.getD 31 0 := by rw [getD_set _ _ _ _ _ (by omega), if_neg (by omega)]
  refine enter (n := 13) (R := fun e L => e = .returned (.agg (bys (clampB k)).toArray)) [.agg (bys k).toArray] Try.func44 rfl rfl rfl (St.refl w) ?_ (fun e w' L' h H => ⟨h, H.kept⟩)
  refine VC_seq ?_
  refine VC_region ?_
  refine l_boxA rfl rfl ?_
  intro b1
  refine l_allocA zr23 rfl ?_
  intro b2
  refine vl_nil ?_
  refine (th_n ?_)
  refine VC_seq ?_
  refine VC_region ?_
  refine vl_v (q_idxA (m := 0) Try.underlying23 sz5 rfl rfl (by omega) (r := _) (by rw [Nat.mul_one, Nat.zero_add])) rfl ?_
  refine vl_v (q_load 1 Try.underlying5 rfl rfl rfl (bys_at (by omega))) rfl ?_
  refine vl_v (q_and_u8 (q := UInt8.ofNat 248) rfl rfl) rfl ?_
  refine vl_v (q_idxA (m := 0) Try.underlying23 sz5 rfl rfl (by omega) (r := _) (by rw [Nat.mul_one, Nat.zero_add])) rfl ?_
  refine l_stB 1 rfl rfl rfl sz5 (by omega) ?_
  simp only [List.set_cons_zero, List.set_cons_succ]
  refine vl_nil ?_
  refine (th_n ?_)
  refine VC_seq ?_
  refine VC_region ?_
  refine vl_v (q_idxA (m := 31) Try.underlying23 sz5 rfl rfl (by omega) (r := _) (by rw [Nat.mul_one, Nat.zero_add])) rfl ?_
  refine vl_v (q_load 1 Try.underlying5 rfl rfl rfl (bys_at (by simp only [zs, zr, zm, za, zb, zu, zw, zi, zt, zd, zc, zn, *] <;> first | done | omega))) rfl ?_
  refine vl_v (q_and_u8 (q := UInt8.ofNat 127) rfl rfl) rfl ?_
  refine vl_v (q_or_u8 (q := UInt8.ofNat 64) rfl rfl) rfl ?_
  refine vl_v (q_idxA (m := 31) Try.underlying23 sz5 rfl rfl (by omega) (r := _) (by rw [Nat.mul_one, Nat.zero_add])) rfl ?_
  refine l_stB 1 rfl rfl rfl sz5 (by simp only [zs, zr, zm, za, zb, zu, zw, zi, zt, zd, zc, zn, *] <;> first | done | omega) ?_
  simp only [List.set_cons_zero, List.set_cons_succ]
  refine vl_nil ?_
  refine (th_n ?_)
  refine VC_seq ?_
  have e3 : (k.set 0 (k.getD 0 0 &&& UInt8.ofNat 248)).set 31 ((k.set 0 (k.getD 0 0 &&& UInt8.ofNat 248)).getD 31 0 &&& UInt8.ofNat 127 ||| UInt8.ofNat 64) = clampB k := by show (k.set 0 (k.getD 0 0 &&& 248)).set 31 ((k.set 0 (k.getD 0 0 &&& 248)).getD 31 0 &&& 127 ||| 64) = _; rw [h31]; rfl
  rw [e3]
  refine VC_region ?_
  refine vl_v (q_loads 1 Try.underlying23 rfl rfl rfl sz23 (by simp only [zb, zu, zw, zi, za]; omega)) rfl ?_
  refine l_storeA 0 rfl rfl rfl sz23 (by simp only [zb, zu, zw, zi, za]; omega) (by with_reducible first | exact bys_one _ | exact u32s_one _ | exact u64s_one _ | exact i64s_one _ | exact n64s_one _ | assumption) (by simp only [zs, zr, zm, za, zb, zu, zw, zi, zt, zd, zc, zn, *] <;> first | done | omega) ?_
  simp only [List.set_cons_zero, List.set_cons_succ]
  refine vl_nil ?_
  refine (th_n ?_)
  refine VC_ret ?_
  refine ⟨_, resC1 0 rfl Try.underlying23 rfl rfl rfl sz23 (by simp only [zb, zu, zw, zi, za]; omega), ?_⟩
  exact rfl
def swL (T : TypeId) (b9 b10 b12 b11 : Nat) (q : List Int × List Int × List Int × List Int) : List Res :=
  [.blk b9 T (i64s q.1), .blk b10 T (i64s q.2.1), .blk b12 T (i64s q.2.2.1), .blk b11 T (i64s q.2.2.2)]
set_option maxHeartbeats 1000000 in
theorem swap_calls {S : List Nat} {w0 : World} {r101 r102 r103 r104 r105 r106 r107 : Res} (s : Bool) (a b c d : List Int) (ha : a.length = 16) (hb : b.length = 16) (hc : c.length = 16) (hd : d.length = 16) (b9 b10 b12 b11 : Nat) (w : World) (H : St S w0 ([.blk b9 78 (i64s a), .blk b10 78 (i64s b), .blk b12 78 (i64s c), .blk b11 78 (i64s d), r101, r102, r103, r104, r105, r106, r107]) w) :
    Calls Try.prog 46 #[.bool s, vP b10 0, vP b9 0, vP b11 0, vP b12 0] w fun e w' => e = .returned (.tuple #[]) ∧ St S w0 (swL 78 b9 b10 b12 b11 (sw s (a, b, c, d)) ++ [r101, r102, r103, r104, r105, r106, r107]) w' := by
  refine enter (n := 11) (R := fun e L => e = .returned (.tuple #[]) ∧ ∀ w', St S w0 L w' → St S w0 (swL 78 b9 b10 b12 b11 (sw s (a, b, c, d)) ++ [r101, r102, r103, r104, r105, r106, r107]) w') [.bool s, vP b10 0, vP b9 0, vP b11 0, vP b12 0] Try.func46 rfl rfl rfl H ?_ (fun e w' L' h H => ⟨h.1, h.2 w' H⟩)
  refine VC_seq ?_
  refine VC_region ?_
  refine vl_v (q_move rfl) rfl ?_
  refine vl_nil ?_
  refine (th_n ?_)
  refine VC_cond rfl (fun ht6 => ?_) (fun ht6 => ?_)
  · skip
    subst ht6
    refine VC_drawQ 6 11 [[], [], [], [], [0, 1, 3], [1, 4, 0, 3], [2, 5, 0, 1, 3, 4], [3, 6, 0, 1, 2, 4, 5]] [[], [], [], [], [0, 1, 3], [0, 1, 3, 4], [0, 1, 2, 3, 4, 5], [0, 1, 2, 3, 4, 5, 6]] [([], [], [], [0, 1, 2, 3, 4, 5, 6, 7, 8, 9, 10], []), ([], [], [], [0, 1, 2, 3, 4, 5, 6, 7, 8, 9, 10], []), ([], [], [], [2, 3, 4, 5, 6, 7, 8, 9, 10], []), ([], [], [], [0, 1, 2, 3, 4, 5, 6, 7, 8, 9, 10], []), ([0, 1, 3], [0], [], [1, 2, 3, 4, 5, 6, 7, 8, 9, 10], [0, 1, 3]), ([0, 1, 3, 4], [1], [], [2, 3, 4, 5, 6, 7, 8, 9, 10], [0, 1, 3, 4])] [2, 3, 4, 5, 6, 7, 8, 9, 10] [0, 1, 2, 3, 4, 5] rfl rfl (by kernel_rfl) ?_
    refine qp_v (fun xs gs hx => q_loads 1 Try.underlying78 rfl rfl rfl sz78 (by simp only [zb, zu, zw, zi, za]; omega)) ?_
    refine qp_v (fun xs gs hx => q_loads 0 Try.underlying78 rfl rfl rfl sz78 (by simp only [zb, zu, zw, zi, za]; omega)) ?_
    refine qp_v (fun xs gs hx => q_loads 1 Try.underlying78 rfl rfl rfl sz78 (by simp only [zb, zu, zw, zi, za]; omega)) ?_
    refine qp_v (fun xs gs hx => q_loads 2 Try.underlying78 rfl rfl rfl sz78 (by simp only [zb, zu, zw, zi, za]; omega)) ?_
    refine qp_storeA (fun xs gs hx => rfl) (fun xs gs hx => rfl) (fun xs gs hx => rfl) sz78 (fun xs gs hx => by first | omega | with_reducible assumption | (simp only [zb, zu, zw, zi, za]; omega) | (simp only [zs, zr, zm, za, zb, zu, zw, zi, zt, zd, zc, zn, *] <;> first | done | omega) | rfl) (fun xs gs hx => by first | (with_reducible first | exact bys_one _ | exact u32s_one _ | exact u64s_one _ | exact i64s_one _ | exact n64s_one _ | assumption) | exact bys_one _ | exact u32s_one _ | exact u64s_one _ | exact i64s_one _ | exact one_all rfl | (refine app_one ?_ ?_ <;> first | exact bys_one _ | exact one_all rfl | (simp; done))) (fun xs gs hx => by first | omega | with_reducible assumption | (simp only [zb, zu, zw, zi, za]; omega) | (simp only [zs, zr, zm, za, zb, zu, zw, zi, zt, zd, zc, zn, *] <;> first | done | omega) | rfl) ?_
    refine qp_storeA (fun xs gs hx => rfl) (fun xs gs hx => rfl) (fun xs gs hx => rfl) sz78 (fun xs gs hx => by first | omega | with_reducible assumption | (simp only [zb, zu, zw, zi, za]; omega) | (simp only [zs, zr, zm, za, zb, zu, zw, zi, zt, zd, zc, zn, *] <;> first | done | omega) | rfl) (fun xs gs hx => by first | (with_reducible first | exact bys_one _ | exact u32s_one _ | exact u64s_one _ | exact i64s_one _ | exact n64s_one _ | assumption) | exact bys_one _ | exact u32s_one _ | exact u64s_one _ | exact i64s_one _ | exact one_all rfl | (refine app_one ?_ ?_ <;> first | exact bys_one _ | exact one_all rfl | (simp; done))) (fun xs gs hx => by first | omega | with_reducible assumption | (simp only [zb, zu, zw, zi, za]; omega) | (simp only [zs, zr, zm, za, zb, zu, zw, zi, zt, zd, zc, zn, *] <;> first | done | omega) | rfl) ?_
    refine qp_end ?_
    intro xs gs hx
    obtain ⟨_, _, _⟩ := hx
    simp only [selI, ownsA, List.contains_cons, List.contains_nil, Nat.reduceBEq, Nat.reduceAdd, Bool.or_false, Bool.or_true, Bool.false_or, Bool.true_or, mask, nRow, nBlk, nRowT, tupAt_0, tupAt_1, List.append_assoc, List.nil_append, List.append_nil, List.cons_append, List.singleton_append]
    refine VL.keep (Sub.cons (s := 0) rfl (Sub.cons (s := 1) rfl (Sub.cons (s := 2) rfl (Sub.cons (s := 3) rfl (Sub.cons (s := 4) rfl (Sub.cons (s := 6) rfl (Sub.cons (s := 9) rfl (Sub.cons (s := 10) rfl (Sub.nil _))))))))) ?_
    refine l_storeA 0 rfl rfl rfl sz78 (by simp only [zb, zu, zw, zi, za]; omega) (by with_reducible first | exact bys_one _ | exact u32s_one _ | exact u64s_one _ | exact i64s_one _ | exact n64s_one _ | assumption) (by simp only [zb, zu, zw, zi, za]; omega) ?_
    simp only [List.set_cons_zero, List.set_cons_succ]
    refine l_storeA 1 rfl rfl rfl sz78 (by simp only [zb, zu, zw, zi, za]; omega) (by with_reducible first | exact bys_one _ | exact u32s_one _ | exact u64s_one _ | exact i64s_one _ | exact n64s_one _ | assumption) (by simp only [zb, zu, zw, zi, za]; omega) ?_
    simp only [List.set_cons_zero, List.set_cons_succ]
    refine vl_nil ?_
    refine (qn_n ?_)
    refine ⟨_, res0 rfl, ?_⟩
    first | exact ⟨rfl, fun w' H' => St.pick H' (ks := [9, 10, 0, 1, 2, 3, 4, 5, 6, 7, 8]) (by decide) rfl⟩ | exact ⟨rfl, fun w' H' => H'⟩
  · skip
    subst ht6
    refine VC_skip ?_
    refine ⟨_, res0 rfl, ?_⟩
    first | exact ⟨rfl, fun w' H' => St.pick H' (ks := [9, 10, 0, 1, 2, 3, 4, 5, 6, 7, 8]) (by decide) rfl⟩ | exact ⟨rfl, fun w' H' => H'⟩
end Go.Proofs.Ytabmfndiepmcgaa
end
section
namespace Go.PBYtabmfndiepmcgaa
open Go Go.RowKit
set_option linter.unusedVariables false
set_option maxRecDepth 10000
theorem zero_okE : okE (List.replicate 16 0) := dig_okE ⟨rfl, fun j hj => by rw [rep0]; omega⟩
theorem ef_zero : ef (List.replicate 16 0) = 0 := by rw [ef, valI_rep]; rfl
def gK : List UInt8 := 65 :: 219 :: 1 :: List.replicate 29 0
theorem gK_length : gK.length = 32 := by simp [gK]
theorem gK_lf : lf gK = g24 := by decide +kernel
theorem one_lf : lf (smallB 1) = 1 := by decide +kernel
def q0L (x : List Int) : List Int × List Int × List Int × List Int := (ofL (smallB 1), x, List.replicate 16 0, ofL (smallB 1))
theorem all4_mk {α : Type} {P : α → Prop} {a b c d : α} (h1 : P a) (h2 : P b) (h3 : P c) (h4 : P d) : all4 P (a, b, c, d) := ⟨h1, h2, h3, h4⟩
theorem q0L_ok {x : List Int} (hx : okE x) : all4 okE (q0L x) := all4_mk (ofL_okE (smallB_length 1)) hx zero_okE (ofL_okE (smallB_length 1))
theorem mult_fin (k p : List UInt8) (hp : p.length = 32) : keyL (mulL (ladL (ofL p) (ofL gK) (sbit k) (q0L (ofL p)) 255).1 (invL (ladL (ofL p) (ofL gK) (sbit k) (q0L (ofL p)) 255).2.2.1)) = kf (xm (sbit k) (lf p)) := by
  have hx := ofL_okE hp
  have hg := ofL_okE gK_length
  have hq := q0L_ok hx
  have ho := ladL_ok hx hg (sbit k) hq 255
  have he := ladL_ef hx hg (sbit k) hq 255
  rw [ef_ofL hp, ef_ofL gK_length, gK_lf, show map4 ef (q0L (ofL p)) = beg (lf p) by unfold map4 q0L beg; simp only [ef_ofL hp, ef_ofL (smallB_length 1), one_lf, ef_zero]] at he
  obtain ⟨o1, o2, o3, o4⟩ := ho
  have h1 := congrArg (fun q : Fp × Fp × Fp × Fp => q.1) he
  have h3 := congrArg (fun q : Fp × Fp × Fp × Fp => q.2.2.1) he
  simp only [map4] at h1 h3
  have oi := invL_okE o3
  rw [keyL_kf (mulL_okE o1 oi), ef_mulL o1 oi, ef_invL o3, h1, h3]
  rfl
/-! ### the document's -/
theorem zero_dig : digN (List.replicate 16 0) := digN_of (by rw [cz_rep]; exact ⟨rfl, fun j hj => by rw [rep0]; omega⟩)
theorem rf_zero : rf (List.replicate 16 0) = 0 := by rw [rf, cz_rep, valI_rep]; rfl
def oneN : List Nat := 1 :: List.replicate 15 0
def gN : List Nat := 56129 :: 1 :: List.replicate 14 0
theorem dig_all {l : List Nat} (h : l.length = 16) (h2 : l.all (fun x => x ≤ 65535) = true) : digN l := by
  refine ⟨h, fun j hj => ?_⟩
  have := List.all_eq_true.1 h2 l[j] (List.getElem_mem (by omega))
  rw [List.getD_eq_getElem?_getD, List.getElem?_eq_getElem (by omega)]
  exact of_decide_eq_true this
theorem oneN_dig : digN oneN := dig_all rfl rfl
theorem gN_dig : digN gN := dig_all rfl rfl
theorem oneN_rf : rf oneN = 1 := by decide +kernel
theorem gN_rf : rf gN = g24 := by decide +kernel
def q0R (x : List Nat) : List Nat × List Nat × List Nat × List Nat := (oneN, x, List.replicate 16 0, oneN)
theorem q0R_dig {x : List Nat} (hx : digN x) : all4 digN (q0R x) := all4_mk oneN_dig hx zero_dig oneN_dig
theorem rmult_fin (k p : List UInt8) (hp : p.length = 32) : keyV (valI (cz (rmulL (ladR (rofL p) gN (sbit k) (q0R (rofL p)) 255).1 (rinvL (ladR (rofL p) gN (sbit k) (q0R (rofL p)) 255).2.2.1)))) = kf (xm (sbit k) (lf p)) := by
  have hx := rofL_dig hp
  have hq := q0R_dig hx
  have ho := ladR_ok hx gN_dig (sbit k) hq 255
  have he := ladR_rf hx gN_dig (sbit k) hq 255
  rw [rf_ofL hp, gN_rf, show map4 rf (q0R (rofL p)) = beg (lf p) by unfold map4 q0R beg; simp only [rf_ofL hp, oneN_rf, rf_zero]] at he
  obtain ⟨o1, o2, o3, o4⟩ := ho
  have h1 := congrArg (fun q : Fp × Fp × Fp × Fp => q.1) he
  have h3 := congrArg (fun q : Fp × Fp × Fp × Fp => q.2.2.1) he
  simp only [map4] at h1 h3
  have oi := rinvL_dig o3
  rw [keyR_kf, rf_mulL o1 oi, rf_invL o3, h1, h3]
  rfl
theorem bit_of (x : UInt8) (m : Nat) (hm : m < 8) : decide (((UInt8.ofNat (x.toNat / 2 ^ (min m 8)) &&& 1).toNat : Int) = 1) = (x.toNat / 2 ^ m % 2 == 1) := by
  have h1 := UInt8.toNat_lt x
  have h2 : x.toNat / 2 ^ m < 256 := Nat.lt_of_le_of_lt (Nat.div_le_self _ _) h1
  rw [Nat.min_eq_left (by omega), UInt8.toNat_and, UInt8.toNat_ofNat_of_lt' h2, show (1 : UInt8).toNat = 1 from rfl, Nat.and_one_is_mod]
  rw [Bool.eq_iff_iff, decide_eq_true_iff, beq_iff_eq]
  omega
end Go.PBYtabmfndiepmcgaa
end
section
namespace Go.Proofs.Ytabmfndiepmcgaa
open Go.RowKit Go.PBYtabmfndiepmcgaa
set_option linter.unusedVariables false
set_option linter.unusedSimpArgs false
set_option maxRecDepth 10000
set_option maxHeartbeats 4000000 in
theorem mult_walk (k p cb : List UInt8) (x g one : List Int) (F : Nat → List Int × List Int × List Int × List Int) (res : List UInt8) (hk : k.length = 32) (hp : p.length = 32)
    (hcb : clampB k = cb) (hx : ofL p = x) (hg : ofL gK = g) (hone : ofL (smallB 1) = one) 
    (ok : ∀ j, all4 okE (F j)) (F0 : F 0 = (one, x, List.replicate 16 0, one)) (Fs : ∀ j, F (j + 1) = sw (sbit k (254 - j)) (stepC addL subL mulL x g (sw (sbit k (254 - j)) (F j)))) (hres : keyL (mulL (F 255).1 (invL (F 255).2.2.1)) = res) (w : World) :
    Calls Try.prog 31 #[.agg (bys k).toArray, .agg (bys p).toArray] w fun e w' => e = .returned (.agg (bys res).toArray) ∧ Kept [] w w' := by
  have hcl : cb.length = 32 := by rw [← hcb]; exact (clampB_length k).trans hk
  have hbit : ∀ i, i ≤ 254 → ((cb.getD (i / 8) 0).toNat / 2 ^ (i % 8) % 2 == 1) = sbit k i := fun i hi => by rw [← hcb]; exact clampB_bit hk hi
  have ox : okE x := by rw [← hx]; exact ofL_okE hp
  have og : okE g := by rw [← hg]; exact ofL_okE gK_length
  have oo : okE one := by rw [← hone]; exact ofL_okE (smallB_length 1)
  have lx := ox.1
  have lg := og.1
  have lo := oo.1
  have lres : res.length = 32 := by rw [← hres]; exact keyL_length _
  refine enter (n := 110) (R := fun e L => e = .returned (.agg (bys res).toArray)) [.agg (bys k).toArray, .agg (bys p).toArray] Try.func31 rfl rfl rfl (St.refl w) ?_ (fun e w' L' h H => ⟨h, H.kept⟩)
  refine VC_seq ?_
  refine VC_region ?_
  refine l_boxA rfl rfl ?_
  intro b2
  refine l_boxA rfl rfl ?_
  intro b3
  refine l_allocA zr23 rfl ?_
  intro b4
  refine vl_nil ?_
  refine (th_n ?_)
  refine VC_seq ?_
  refine VC_region ?_
  refine vl_v (q_loads 2 Try.underlying23 rfl rfl rfl sz23 (by simp only [zb, zu, zw, zi, za]; omega)) rfl ?_
  refine vl_v (q_callV Try.func44 rfl rfl rfl (fun w1 H1 => hcb ▸ clamped_calls k hk w1)) rfl ?_
  refine l_allocA zr23 rfl ?_
  intro b5
  refine l_storeA 0 rfl rfl rfl sz23 (by simp only [zb, zu, zw, zi, za]; omega) (by with_reducible first | exact bys_one _ | exact u32s_one _ | exact u64s_one _ | exact i64s_one _ | exact n64s_one _ | assumption) (by simp only [zs, zr, zm, za, zb, zu, zw, zi, zt, zd, zc, zn, *] <;> first | done | omega) ?_
  simp only [List.set_cons_zero, List.set_cons_succ]
  refine vl_nil ?_
  refine (th_n ?_)
  refine VC_seq ?_
  refine VC_region ?_
  refine vl_v (q_loads 2 Try.underlying23 rfl rfl rfl sz23 (by simp only [zb, zu, zw, zi, za]; omega)) rfl ?_
  refine vl_v (q_callV Try.func45 rfl rfl rfl (fun w1 H1 => hx ▸ of_calls p hp w1)) rfl ?_
  refine vl_v (q_build (c' := bys gK) rfl (by kernel_rfl)) rfl ?_
  refine vl_v (q_callV Try.func45 rfl rfl rfl (fun w1 H1 => hg ▸ of_calls gK gK_length w1)) rfl ?_
  refine l_allocA zr78 rfl ?_
  intro b6
  refine l_allocA zr78 rfl ?_
  intro b7
  refine l_storeA 1 rfl rfl rfl sz78 (by simp only [zb, zu, zw, zi, za]; omega) (by with_reducible first | exact bys_one _ | exact u32s_one _ | exact u64s_one _ | exact i64s_one _ | exact n64s_one _ | assumption) (by simp only [zs, zr, zm, za, zb, zu, zw, zi, zt, zd, zc, zn, *] <;> first | done | omega) ?_
  simp only [List.set_cons_zero, List.set_cons_succ]
  refine l_storeA 0 rfl rfl rfl sz78 (by simp only [zb, zu, zw, zi, za]; omega) (by with_reducible first | exact bys_one _ | exact u32s_one _ | exact u64s_one _ | exact i64s_one _ | exact n64s_one _ | assumption) (by simp only [zs, zr, zm, za, zb, zu, zw, zi, zt, zd, zc, zn, *] <;> first | done | omega) ?_
  simp only [List.set_cons_zero, List.set_cons_succ]
  refine vl_nil ?_
  refine (th_n ?_)
  refine VC_seq ?_
  refine VC_region ?_
  refine vl_v (q_build (c' := bys (smallB 1)) rfl (by kernel_rfl)) rfl ?_
  refine vl_v (q_callV Try.func45 rfl rfl rfl (fun w1 H1 => hone ▸ of_calls (smallB 1) (smallB_length 1) w1)) rfl ?_
  refine l_allocA zr78 rfl ?_
  intro b8
  refine l_storeA 0 rfl rfl rfl sz78 (by simp only [zb, zu, zw, zi, za]; omega) (by with_reducible first | exact bys_one _ | exact u32s_one _ | exact u64s_one _ | exact i64s_one _ | exact n64s_one _ | assumption) (by simp only [zs, zr, zm, za, zb, zu, zw, zi, zt, zd, zc, zn, *] <;> first | done | omega) ?_
  simp only [List.set_cons_zero, List.set_cons_succ]
  refine vl_nil ?_
  refine (th_n ?_)
  refine VC_seq ?_
  refine VC_drawQ 8 7 [[], [], [], [], [], [], [3, 0, 4, 5], [4, 1, 6, 0, 3, 5], [5, 2, 7, 0, 1, 3, 4, 6]] [[], [], [], [], [], [], [0, 3, 4, 5], [0, 1, 3, 4, 5, 6], [0, 1, 2, 3, 4, 5, 6, 7]] [([], [], [], [0, 1, 2, 3, 4, 5, 6], []), ([], [], [], [0, 1, 2, 3, 4, 5, 6], []), ([], [], [], [0, 1, 2, 3, 4, 5, 6], []), ([], [], [], [0, 1, 2, 3, 4, 5, 6], []), ([], [], [], [0, 1, 2, 3, 4, 5, 6], []), ([], [], [], [0, 1, 2, 3, 4, 5, 6], []), ([0, 3, 4, 5], [], [3], [0, 1, 2, 3, 4, 5, 6], [0, 4, 5]), ([0, 1, 3, 4, 5, 6], [], [4], [0, 1, 2, 3, 4, 5, 6], [0, 1, 5, 6])] [0, 1, 2, 3, 4, 5, 6] [0, 1, 2, 5, 6, 7] rfl rfl (by kernel_rfl) ?_
  refine qp_v (fun xs gs hx => q_loads 0 Try.underlying78 rfl rfl rfl sz78 (by simp only [zb, zu, zw, zi, za]; omega)) ?_
  refine qp_v (fun xs gs hx => q_loads 2 Try.underlying78 rfl rfl rfl sz78 (by simp only [zb, zu, zw, zi, za]; omega)) ?_
  refine qp_v (fun xs gs hx => q_loads 0 Try.underlying78 rfl rfl rfl sz78 (by simp only [zb, zu, zw, zi, za]; omega)) ?_
  refine qp_a (fun xs gs hx => q_alloc zr78 rfl) ?_
  refine qp_a (fun xs gs hx => q_alloc zr78 rfl) ?_
  refine qp_a (fun xs gs hx => q_alloc zr78 rfl) ?_
  refine qp_storeN (fun xs gs hx => rfl) (fun xs gs hx => hx.1 rfl) (fun xs gs hx => rfl) (fun xs gs hx => List.append_nil _) sz78 (fun xs gs hx => by first | omega | with_reducible assumption | (simp only [zb, zu, zw, zi, za]; omega) | (simp only [zs, zr, zm, za, zb, zu, zw, zi, zt, zd, zc, zn, *] <;> first | done | omega) | rfl) (fun xs gs hx => by first | (with_reducible first | exact bys_one _ | exact u32s_one _ | exact u64s_one _ | exact i64s_one _ | exact n64s_one _ | assumption) | exact bys_one _ | exact u32s_one _ | exact u64s_one _ | exact i64s_one _ | exact one_all rfl | (refine app_one ?_ ?_ <;> first | exact bys_one _ | exact one_all rfl | (simp; done))) (fun xs gs hx => by first | omega | with_reducible assumption | (simp only [zb, zu, zw, zi, za]; omega) | (simp only [zs, zr, zm, za, zb, zu, zw, zi, zt, zd, zc, zn, *] <;> first | done | omega) | rfl) ?_
  refine qp_storeN (fun xs gs hx => rfl) (fun xs gs hx => hx.2.1 rfl) (fun xs gs hx => rfl) (fun xs gs hx => List.append_nil _) sz78 (fun xs gs hx => by first | omega | with_reducible assumption | (simp only [zb, zu, zw, zi, za]; omega) | (simp only [zs, zr, zm, za, zb, zu, zw, zi, zt, zd, zc, zn, *] <;> first | done | omega) | rfl) (fun xs gs hx => by first | (with_reducible first | exact bys_one _ | exact u32s_one _ | exact u64s_one _ | exact i64s_one _ | exact n64s_one _ | assumption) | exact bys_one _ | exact u32s_one _ | exact u64s_one _ | exact i64s_one _ | exact one_all rfl | (refine app_one ?_ ?_ <;> first | exact bys_one _ | exact one_all rfl | (simp; done))) (fun xs gs hx => by first | omega | with_reducible assumption | (simp only [zb, zu, zw, zi, za]; omega) | (simp only [zs, zr, zm, za, zb, zu, zw, zi, zt, zd, zc, zn, *] <;> first | done | omega) | rfl) ?_
  refine qp_end ?_
  intro xs gs hx
  obtain ⟨⟨b9, e9⟩, ⟨b10, e10⟩, ⟨b11, e11⟩, _, _, _⟩ := hx
  simp only [selI, ownsA, List.contains_cons, List.contains_nil, Nat.reduceBEq, Nat.reduceAdd, Bool.or_false, Bool.or_true, Bool.false_or, Bool.true_or, mask, nRow, nBlk, nRowT, tupAt_0, tupAt_1, List.append_assoc, List.nil_append, List.append_nil, List.cons_append, List.singleton_append, e9, e10, e11]
  refine VL.keep (Sub.cons (s := 0) rfl (Sub.cons (s := 1) rfl (Sub.cons (s := 2) rfl (Sub.cons (s := 3) rfl (Sub.cons (s := 4) rfl (Sub.cons (s := 5) rfl (Sub.cons (s := 6) rfl (Sub.cons (s := 7) rfl (Sub.cons (s := 8) rfl (Sub.cons (s := 35) rfl (Sub.cons (s := 9) rfl (Sub.cons (s := 10) rfl (Sub.cons (s := 11) rfl (Sub.nil _)))))))))))))) ?_
  refine l_storeA 7 rfl rfl rfl sz78 (by simp only [zb, zu, zw, zi, za]; omega) (by with_reducible first | exact bys_one _ | exact u32s_one _ | exact u64s_one _ | exact i64s_one _ | exact n64s_one _ | assumption) (by rfl) ?_
  simp only [List.set_cons_zero, List.set_cons_succ]
  refine vl_nil ?_
  refine (qn_n (th_n ?_))
  refine VC_seq ?_
  refine VC_region ?_
  refine l_allocA zr78 rfl ?_
  intro b12
  refine vl_nil ?_
  refine (th_n ?_)
  refine VC_seq ?_
  refine VC_region ?_
  refine vl_v (q_makeFunc rfl) rfl ?_
  refine vl_v (q_assign rfl) rfl ?_
  refine vl_nil ?_
  refine (th_n ?_)
  refine VC_seq ?_
  refine VC_seq ?_
  refine VC_region ?_
  refine vl_v (q_assign rfl) rfl ?_
  refine vl_nil ?_
  refine (th_n ?_)
  refine VC_block ?_
  refine VC_loop (ι := Nat) (fun j => j ≤ 255) (fun j => [(4, vP b4 0), (5, vP b5 0), (6, vP b6 0), (7, vP b7 0), (9, vP b9 0), (10, vP b10 0), (11, vP b11 0), (12, vP b12 0), (13, .func (.func 46) #[] #[vP b10 0, vP b9 0, vP b11 0, vP b12 0]), (14, vI (254 - (j : Int)))]) (fun j => [.blk b9 78 (i64s (F j).1), .blk b10 78 (i64s (F j).2.1), .blk b12 78 (i64s (F j).2.2.1), .blk b11 78 (i64s (F j).2.2.2), .blk b7 78 (i64s g), .blk b6 78 (i64s x), .blk b5 23 (bys cb), .blk b4 23 (bys (List.replicate 32 0)), .blk b8 78 (i64s one), .blk b3 23 (bys p), .blk b2 23 (bys k)]) (fun j => 255 - j) 0 (by omega) (Sub.cons (s := 4) rfl (Sub.cons (s := 5) rfl (Sub.cons (s := 6) rfl (Sub.cons (s := 7) rfl (Sub.cons (s := 9) rfl (Sub.cons (s := 10) rfl (Sub.cons (s := 11) rfl (Sub.cons (s := 12) rfl (Sub.cons (s := 13) rfl (Sub.cons (s := 14) rfl (Sub.nil _))))))))))) (fun w' H => by rw [F0]; exact H.pick (ks := [9, 10, 0, 8, 2, 3, 4, 5, 1, 6, 7]) (by decide) rfl) ?_
  rintro j hp
  have okj := ok j
  obtain ⟨⟨ua0, ub0, uc0, ud0⟩, hFj⟩ : ∃ r, r = F j := ⟨_, rfl⟩
  rw [← hFj] at okj ⊢
  obtain ⟨oa0, ob0, oc0, od0⟩ := okj
  dsimp only at oa0 ob0 oc0 od0 ⊢
  have la0 := oa0.1
  have lb0 := ob0.1
  have lc0 := oc0.1
  have ld0 := od0.1
  refine VC_seq ?_
  refine VC_seq ?_
  refine VC_region ?_
  refine vl_v (q_move rfl) rfl ?_
  refine vl_v (q_geq_k (q := 0) Try.underlying3 rfl rfl) rfl ?_
  refine vl_nil ?_
  refine (th_n ?_)
  refine VC_cond rfl (fun ht38 => ?_) (fun ht38 => ?_)
  · skip
    have ht38 := of_decide_eq_true ht38
    obtain ⟨i, hi⟩ : ∃ i : Nat, i = 254 - j := ⟨_, rfl⟩
    have hij : (254 - (j : Int)) = (i : Int) := by omega
    have hi254 : i ≤ 254 := by omega
    rw [hij]
    refine VC_skip ?_
    refine (th_n ?_)
    refine VC_seq ?_
    refine VC_block ?_
    refine VC_seq ?_
    refine VC_region ?_
    refine vl_v (q_move rfl) rfl ?_
    refine vl_v (q_quo_n (q := 8) rfl rfl (by omega) (by omega)) rfl ?_
    refine vl_v (q_idxA Try.underlying23 sz5 rfl rfl (by omega) (r := _) (by rw [Nat.mul_one, Nat.zero_add])) rfl ?_
    refine vl_v (q_load 6 Try.underlying5 rfl rfl rfl (bys_at (by omega))) rfl ?_
    refine vl_v (q_move rfl) rfl ?_
    refine vl_v (q_rem_n (q := 8) rfl rfl (by omega)) rfl ?_
    refine vl_v (q_shr_u8 rfl rfl) rfl ?_
    refine vl_v (q_and_u8 (q := UInt8.ofNat 1) rfl rfl) rfl ?_
    refine vl_v (q_as (v := .bool (sbit k i)) (q_eql_k (q := 1) Try.underlying5 rfl rfl) (by rw [← hbit i hi254, ← bit_of _ _ (Nat.mod_lt _ (by decide))]; rfl)) rfl ?_
    refine vl_v (q_assign rfl) rfl ?_
    refine vl_nil ?_
    refine (th_n ?_)
    refine VC_seq ?_
    refine VC_region ?_
    refine vl_v (q_move rfl) rfl ?_
    refine vl_v (q_move rfl) rfl ?_
    refine l_clo (F := fun v L' => v = .tuple #[] ∧ L' = swL 78 b9 b10 b12 b11 (sw (sbit k i) (ua0, ub0, uc0, ud0)) ++ [.blk b7 78 (i64s g), .blk b6 78 (i64s x), .blk b5 23 (bys cb), .blk b4 23 (bys (List.replicate 32 0)), .blk b8 78 (i64s one), .blk b3 23 (bys p), .blk b2 23 (bys k)]) rfl Try.func46 rfl rfl rfl (fun w1 H1 => (swap_calls (sbit k i) ua0 ub0 uc0 ud0 la0 lb0 lc0 ld0 b9 b10 b12 b11 w1 H1).mono fun e w' h => ⟨_, _, h.1, ⟨rfl, rfl⟩, h.2⟩) rfl ?_
    rintro v L' ⟨rfl, rfl⟩
    obtain ⟨⟨ua, ub, uc, ud⟩, hq1⟩ : ∃ r, r = sw (sbit k i) (ua0, ub0, uc0, ud0) := ⟨_, rfl⟩
    rw [← hq1]
    obtain ⟨oa, ob, oc, od⟩ : all4 okE (ua, ub, uc, ud) := by rw [hq1]; exact sw_all _ (all4_mk oa0 ob0 oc0 od0)
    simp only [swL, List.cons_append, List.nil_append] at oa ob oc od ⊢
    have la := oa.1
    have lb := ob.1
    have lc := oc.1
    have ld := od.1
    refine vl_nil ?_
    refine (th_n ?_)
    refine VC_seq ?_
    obtain ⟨e, he⟩ : ∃ r, addL ua uc = r := ⟨_, rfl⟩
    have oe : okE e := by rw [← he]; exact addL_okE oa oc
    have le := oe.1
    obtain ⟨f, hf⟩ : ∃ r, subL ua uc = r := ⟨_, rfl⟩
    have of : okE f := by rw [← hf]; exact subL_okE oa oc
    have lf := of.1
    refine VC_drawM 8 [[], [], [0, 1], [], [], [3, 4, 2], [], [], [6, 2, 5, 0, 1, 7], [7, 5, 8, 0, 1, 2, 3, 4, 6]] [[], [], [0, 1], [], [], [0, 1, 2, 3, 4], [], [], [0, 1, 2, 3, 4, 5, 6, 7], [0, 1, 2, 3, 4, 5, 6, 7, 8]] rfl (by kernel_rfl) ?_
    refine qm_v (fun xs hx => q_loads 0 Try.underlying78 rfl rfl rfl sz78 (by simp only [zb, zu, zw, zi, za]; omega)) ?_
    refine qm_v (fun xs hx => q_loads 2 Try.underlying78 rfl rfl rfl sz78 (by simp only [zb, zu, zw, zi, za]; omega)) ?_
    refine qm_v (fun xs hx => q_callV Try.func47 rfl rfl rfl (fun w1 H1 => he ▸ add_calls ua uc oa oc w1)) ?_
    refine qm_v (fun xs hx => q_loads 0 Try.underlying78 rfl rfl rfl sz78 (by simp only [zb, zu, zw, zi, za]; omega)) ?_
    refine qm_v (fun xs hx => q_loads 2 Try.underlying78 rfl rfl rfl sz78 (by simp only [zb, zu, zw, zi, za]; omega)) ?_
    refine qm_v (fun xs hx => q_callV Try.func48 rfl rfl rfl (fun w1 H1 => hf ▸ sub_calls ua uc oa oc w1)) ?_
    refine qm_a (fun xs hx => q_alloc zr78 rfl) ?_
    refine qm_a (fun xs hx => q_alloc zr78 rfl) ?_
    refine qm_end ?_
    intro xs hx
    obtain ⟨⟨b16, e16⟩, ⟨b17, e17⟩, _⟩ := hx
    simp only [e16]
    simp only [e17]
    simp only [resT, nRow, nBlk, nRowT, tupAt_0, List.append_assoc, List.nil_append, List.append_nil, List.cons_append, List.singleton_append, e16, e17]
    refine VL.keep (Sub.cons (s := 4) rfl (Sub.cons (s := 5) rfl (Sub.cons (s := 6) rfl (Sub.cons (s := 7) rfl (Sub.cons (s := 9) rfl (Sub.cons (s := 10) rfl (Sub.cons (s := 11) rfl (Sub.cons (s := 12) rfl (Sub.cons (s := 13) rfl (Sub.cons (s := 14) rfl (Sub.cons (s := 38) rfl (Sub.cons (s := 15) rfl (Sub.cons (s := 55) rfl (Sub.cons (s := 58) rfl (Sub.cons (s := 16) rfl (Sub.cons (s := 17) rfl (Sub.nil _))))))))))))))))) ?_
    refine l_storeA 0 rfl rfl rfl sz78 (by simp only [zb, zu, zw, zi, za]; omega) (by with_reducible first | exact bys_one _ | exact u32s_one _ | exact u64s_one _ | exact i64s_one _ | exact n64s_one _ | assumption) (by rfl) ?_
    simp only [List.set_cons_zero, List.set_cons_succ]
    refine l_storeA 1 rfl rfl rfl sz78 (by simp only [zb, zu, zw, zi, za]; omega) (by with_reducible first | exact bys_one _ | exact u32s_one _ | exact u64s_one _ | exact i64s_one _ | exact n64s_one _ | assumption) (by rfl) ?_
    simp only [List.set_cons_zero, List.set_cons_succ]
    refine vl_nil ?_
    refine (qn_n (th_n ?_))
    refine VC_seq ?_
    obtain ⟨s1, hs1⟩ : ∃ r, subL ub ud = r := ⟨_, rfl⟩
    have os1 : okE s1 := by rw [← hs1]; exact subL_okE ob od
    have ls1 := os1.1
    obtain ⟨s2, hs2⟩ : ∃ r, addL ub ud = r := ⟨_, rfl⟩
    have os2 : okE s2 := by rw [← hs2]; exact addL_okE ob od
    have ls2 := os2.1
    obtain ⟨y, hy⟩ : ∃ r, mulL s1 e = r := ⟨_, rfl⟩
    have oy : okE y := by rw [← hy]; exact mulL_okE os1 oe
    have ly := oy.1
    obtain ⟨zz, hzz⟩ : ∃ r, mulL s2 f = r := ⟨_, rfl⟩
    have ozz : okE zz := by rw [← hzz]; exact mulL_okE os2 of
    have lzz := ozz.1
    refine VC_drawM 12 [[], [], [0, 1], [], [2, 3], [], [], [5, 6, 4], [], [7, 8], [], [], [10, 4, 9, 0, 1, 2, 3, 11], [11, 9, 12, 0, 1, 2, 3, 4, 5, 6, 7, 8, 10]] [[], [], [0, 1], [], [0, 1, 2, 3], [], [], [0, 1, 2, 3, 4, 5, 6], [], [0, 1, 2, 3, 4, 5, 6, 7, 8], [], [], [0, 1, 2, 3, 4, 5, 6, 7, 8, 9, 10, 11], [0, 1, 2, 3, 4, 5, 6, 7, 8, 9, 10, 11, 12]] rfl (by kernel_rfl) ?_
    refine qm_v (fun xs hx => q_loads 3 Try.underlying78 rfl rfl rfl sz78 (by simp only [zb, zu, zw, zi, za]; omega)) ?_
    refine qm_v (fun xs hx => q_loads 5 Try.underlying78 rfl rfl rfl sz78 (by simp only [zb, zu, zw, zi, za]; omega)) ?_
    refine qm_v (fun xs hx => q_callV Try.func48 rfl rfl rfl (fun w1 H1 => hs1 ▸ sub_calls ub ud ob od w1)) ?_
    refine qm_v (fun xs hx => q_loads 0 Try.underlying78 rfl rfl rfl sz78 (by simp only [zb, zu, zw, zi, za]; omega)) ?_
    refine qm_v (fun xs hx => q_callV Try.func49 rfl rfl rfl (fun w1 H1 => hy ▸ mul_calls s1 e os1 oe w1)) ?_
    refine qm_v (fun xs hx => q_loads 3 Try.underlying78 rfl rfl rfl sz78 (by simp only [zb, zu, zw, zi, za]; omega)) ?_
    refine qm_v (fun xs hx => q_loads 5 Try.underlying78 rfl rfl rfl sz78 (by simp only [zb, zu, zw, zi, za]; omega)) ?_
    refine qm_v (fun xs hx => q_callV Try.func47 rfl rfl rfl (fun w1 H1 => hs2 ▸ add_calls ub ud ob od w1)) ?_
    refine qm_v (fun xs hx => q_loads 1 Try.underlying78 rfl rfl rfl sz78 (by simp only [zb, zu, zw, zi, za]; omega)) ?_
    refine qm_v (fun xs hx => q_callV Try.func49 rfl rfl rfl (fun w1 H1 => hzz ▸ mul_calls s2 f os2 of w1)) ?_
    refine qm_a (fun xs hx => q_alloc zr78 rfl) ?_
    refine qm_a (fun xs hx => q_alloc zr78 rfl) ?_
    refine qm_end ?_
    intro xs hx
    obtain ⟨⟨b18, e18⟩, ⟨b19, e19⟩, _⟩ := hx
    simp only [e18]
    simp only [e19]
    simp only [resT, nRow, nBlk, nRowT, tupAt_0, List.append_assoc, List.nil_append, List.append_nil, List.cons_append, List.singleton_append, e18, e19]
    refine VL.keep (Sub.cons (s := 4) rfl (Sub.cons (s := 5) rfl (Sub.cons (s := 6) rfl (Sub.cons (s := 7) rfl (Sub.cons (s := 9) rfl (Sub.cons (s := 10) rfl (Sub.cons (s := 11) rfl (Sub.cons (s := 12) rfl (Sub.cons (s := 13) rfl (Sub.cons (s := 14) rfl (Sub.cons (s := 38) rfl (Sub.cons (s := 15) rfl (Sub.cons (s := 16) rfl (Sub.cons (s := 17) rfl (Sub.cons (s := 63) rfl (Sub.cons (s := 68) rfl (Sub.cons (s := 18) rfl (Sub.cons (s := 19) rfl (Sub.nil _))))))))))))))))))) ?_
    refine l_storeA 0 rfl rfl rfl sz78 (by simp only [zb, zu, zw, zi, za]; omega) (by with_reducible first | exact bys_one _ | exact u32s_one _ | exact u64s_one _ | exact i64s_one _ | exact n64s_one _ | assumption) (by rfl) ?_
    simp only [List.set_cons_zero, List.set_cons_succ]
    refine l_storeA 1 rfl rfl rfl sz78 (by simp only [zb, zu, zw, zi, za]; omega) (by with_reducible first | exact bys_one _ | exact u32s_one _ | exact u64s_one _ | exact i64s_one _ | exact n64s_one _ | assumption) (by rfl) ?_
    simp only [List.set_cons_zero, List.set_cons_succ]
    refine vl_nil ?_
    refine (qn_n (th_n ?_))
    refine VC_seq ?_
    obtain ⟨u, hu⟩ : ∃ r, mulL e e = r := ⟨_, rfl⟩
    have ou : okE u := by rw [← hu]; exact mulL_okE oe oe
    have lu := ou.1
    obtain ⟨v, hv⟩ : ∃ r, mulL f f = r := ⟨_, rfl⟩
    have ov : okE v := by rw [← hv]; exact mulL_okE of of
    have lv := ov.1
    refine VC_drawM 8 [[], [], [0, 1], [], [], [3, 4, 2], [], [], [6, 2, 5, 0, 1, 7], [7, 5, 8, 0, 1, 2, 3, 4, 6]] [[], [], [0, 1], [], [], [0, 1, 2, 3, 4], [], [], [0, 1, 2, 3, 4, 5, 6, 7], [0, 1, 2, 3, 4, 5, 6, 7, 8]] rfl (by kernel_rfl) ?_
    refine qm_v (fun xs hx => q_loads 2 Try.underlying78 rfl rfl rfl sz78 (by simp only [zb, zu, zw, zi, za]; omega)) ?_
    refine qm_v (fun xs hx => q_loads 2 Try.underlying78 rfl rfl rfl sz78 (by simp only [zb, zu, zw, zi, za]; omega)) ?_
    refine qm_v (fun xs hx => q_callV Try.func49 rfl rfl rfl (fun w1 H1 => hu ▸ mul_calls e e oe oe w1)) ?_
    refine qm_v (fun xs hx => q_loads 3 Try.underlying78 rfl rfl rfl sz78 (by simp only [zb, zu, zw, zi, za]; omega)) ?_
    refine qm_v (fun xs hx => q_loads 3 Try.underlying78 rfl rfl rfl sz78 (by simp only [zb, zu, zw, zi, za]; omega)) ?_
    refine qm_v (fun xs hx => q_callV Try.func49 rfl rfl rfl (fun w1 H1 => hv ▸ mul_calls f f of of w1)) ?_
    refine qm_a (fun xs hx => q_alloc zr78 rfl) ?_
    refine qm_a (fun xs hx => q_alloc zr78 rfl) ?_
    refine qm_end ?_
    intro xs hx
    obtain ⟨⟨b20, e20⟩, ⟨b21, e21⟩, _⟩ := hx
    simp only [e20]
    simp only [e21]
    simp only [resT, nRow, nBlk, nRowT, tupAt_0, List.append_assoc, List.nil_append, List.append_nil, List.cons_append, List.singleton_append, e20, e21]
    refine VL.keep (Sub.cons (s := 4) rfl (Sub.cons (s := 5) rfl (Sub.cons (s := 6) rfl (Sub.cons (s := 7) rfl (Sub.cons (s := 9) rfl (Sub.cons (s := 10) rfl (Sub.cons (s := 11) rfl (Sub.cons (s := 12) rfl (Sub.cons (s := 13) rfl (Sub.cons (s := 14) rfl (Sub.cons (s := 38) rfl (Sub.cons (s := 15) rfl (Sub.cons (s := 16) rfl (Sub.cons (s := 17) rfl (Sub.cons (s := 18) rfl (Sub.cons (s := 19) rfl (Sub.cons (s := 71) rfl (Sub.cons (s := 74) rfl (Sub.cons (s := 20) rfl (Sub.cons (s := 21) rfl (Sub.nil _))))))))))))))))))))) ?_
    refine l_storeA 0 rfl rfl rfl sz78 (by simp only [zb, zu, zw, zi, za]; omega) (by with_reducible first | exact bys_one _ | exact u32s_one _ | exact u64s_one _ | exact i64s_one _ | exact n64s_one _ | assumption) (by rfl) ?_
    simp only [List.set_cons_zero, List.set_cons_succ]
    refine l_storeA 1 rfl rfl rfl sz78 (by simp only [zb, zu, zw, zi, za]; omega) (by with_reducible first | exact bys_one _ | exact u32s_one _ | exact u64s_one _ | exact i64s_one _ | exact n64s_one _ | assumption) (by rfl) ?_
    simp only [List.set_cons_zero, List.set_cons_succ]
    refine vl_nil ?_
    refine (qn_n (th_n ?_))
    refine VC_seq ?_
    obtain ⟨ww, hww⟩ : ∃ r, subL u v = r := ⟨_, rfl⟩
    have oww : okE ww := by rw [← hww]; exact subL_okE ou ov
    have lww := oww.1
    refine VC_region ?_
    refine vl_v (q_loads 0 Try.underlying78 rfl rfl rfl sz78 (by simp only [zb, zu, zw, zi, za]; omega)) rfl ?_
    refine vl_v (q_loads 1 Try.underlying78 rfl rfl rfl sz78 (by simp only [zb, zu, zw, zi, za]; omega)) rfl ?_
    refine vl_v (q_callV Try.func48 rfl rfl rfl (fun w1 H1 => hww ▸ sub_calls u v ou ov w1)) rfl ?_
    refine l_allocA zr78 rfl ?_
    intro b22
    refine l_storeA 0 rfl rfl rfl sz78 (by simp only [zb, zu, zw, zi, za]; omega) (by with_reducible first | exact bys_one _ | exact u32s_one _ | exact u64s_one _ | exact i64s_one _ | exact n64s_one _ | assumption) (by simp only [zs, zr, zm, za, zb, zu, zw, zi, zt, zd, zc, zn, *] <;> first | done | omega) ?_
    simp only [List.set_cons_zero, List.set_cons_succ]
    refine vl_nil ?_
    refine (th_n ?_)
    refine VC_seq ?_
    obtain ⟨mo, hmo⟩ : ∃ r, addL y zz = r := ⟨_, rfl⟩
    have omo : okE mo := by rw [← hmo]; exact addL_okE oy ozz
    have lmo := omo.1
    obtain ⟨ls, hls⟩ : ∃ r, subL y zz = r := ⟨_, rfl⟩
    have ols : okE ls := by rw [← hls]; exact subL_okE oy ozz
    have lls := ols.1
    refine VC_drawM 8 [[], [], [0, 1], [], [], [3, 4, 2], [], [], [6, 2, 5, 0, 1, 7], [7, 5, 8, 0, 1, 2, 3, 4, 6]] [[], [], [0, 1], [], [], [0, 1, 2, 3, 4], [], [], [0, 1, 2, 3, 4, 5, 6, 7], [0, 1, 2, 3, 4, 5, 6, 7, 8]] rfl (by kernel_rfl) ?_
    refine qm_v (fun xs hx => q_loads 3 Try.underlying78 rfl rfl rfl sz78 (by simp only [zb, zu, zw, zi, za]; omega)) ?_
    refine qm_v (fun xs hx => q_loads 4 Try.underlying78 rfl rfl rfl sz78 (by simp only [zb, zu, zw, zi, za]; omega)) ?_
    refine qm_v (fun xs hx => q_callV Try.func47 rfl rfl rfl (fun w1 H1 => hmo ▸ add_calls y zz oy ozz w1)) ?_
    refine qm_v (fun xs hx => q_loads 3 Try.underlying78 rfl rfl rfl sz78 (by simp only [zb, zu, zw, zi, za]; omega)) ?_
    refine qm_v (fun xs hx => q_loads 4 Try.underlying78 rfl rfl rfl sz78 (by simp only [zb, zu, zw, zi, za]; omega)) ?_
    refine qm_v (fun xs hx => q_callV Try.func48 rfl rfl rfl (fun w1 H1 => hls ▸ sub_calls y zz oy ozz w1)) ?_
    refine qm_a (fun xs hx => q_alloc zr78 rfl) ?_
    refine qm_a (fun xs hx => q_alloc zr78 rfl) ?_
    refine qm_end ?_
    intro xs hx
    obtain ⟨⟨b23, e23⟩, ⟨b24, e24⟩, _⟩ := hx
    simp only [e23]
    simp only [e24]
    simp only [resT, nRow, nBlk, nRowT, tupAt_0, List.append_assoc, List.nil_append, List.append_nil, List.cons_append, List.singleton_append, e23, e24]
    refine VL.keep (Sub.cons (s := 4) rfl (Sub.cons (s := 5) rfl (Sub.cons (s := 6) rfl (Sub.cons (s := 7) rfl (Sub.cons (s := 9) rfl (Sub.cons (s := 10) rfl (Sub.cons (s := 11) rfl (Sub.cons (s := 12) rfl (Sub.cons (s := 13) rfl (Sub.cons (s := 14) rfl (Sub.cons (s := 38) rfl (Sub.cons (s := 15) rfl (Sub.cons (s := 16) rfl (Sub.cons (s := 17) rfl (Sub.cons (s := 18) rfl (Sub.cons (s := 19) rfl (Sub.cons (s := 20) rfl (Sub.cons (s := 21) rfl (Sub.cons (s := 22) rfl (Sub.cons (s := 80) rfl (Sub.cons (s := 83) rfl (Sub.cons (s := 23) rfl (Sub.cons (s := 24) rfl (Sub.nil _)))))))))))))))))))))))) ?_
    refine l_storeA 0 rfl rfl rfl sz78 (by simp only [zb, zu, zw, zi, za]; omega) (by with_reducible first | exact bys_one _ | exact u32s_one _ | exact u64s_one _ | exact i64s_one _ | exact n64s_one _ | assumption) (by rfl) ?_
    simp only [List.set_cons_zero, List.set_cons_succ]
    refine l_storeA 1 rfl rfl rfl sz78 (by simp only [zb, zu, zw, zi, za]; omega) (by with_reducible first | exact bys_one _ | exact u32s_one _ | exact u64s_one _ | exact i64s_one _ | exact n64s_one _ | assumption) (by rfl) ?_
    simp only [List.set_cons_zero, List.set_cons_succ]
    refine vl_nil ?_
    refine (qn_n (th_n ?_))
    refine VC_seq ?_
    obtain ⟨na, hna⟩ : ∃ r, mulL u v = r := ⟨_, rfl⟩
    have ona : okE na := by rw [← hna]; exact mulL_okE ou ov
    have lna := ona.1
    obtain ⟨g1, hg1⟩ : ∃ r, mulL g ww = r := ⟨_, rfl⟩
    have og1 : okE g1 := by rw [← hg1]; exact mulL_okE og oww
    have lg1 := og1.1
    obtain ⟨g2, hg2⟩ : ∃ r, addL u g1 = r := ⟨_, rfl⟩
    have og2 : okE g2 := by rw [← hg2]; exact addL_okE ou og1
    have lg2 := og2.1
    obtain ⟨nc, hnc⟩ : ∃ r, mulL ww g2 = r := ⟨_, rfl⟩
    have onc : okE nc := by rw [← hnc]; exact mulL_okE oww og2
    have lnc := onc.1
    refine VC_drawV 9 [[], [], [0, 1], [], [], [], [], [5, 6, 2], [4, 7], [3, 8], [2, 9, 0, 1], [9, 10, 0, 1, 2, 3, 4, 5, 6, 7, 8]] [[], [], [0, 1], [], [], [], [], [0, 1, 2, 5, 6], [0, 1, 2, 4, 5, 6, 7], [0, 1, 2, 3, 4, 5, 6, 7, 8], [0, 1, 2, 3, 4, 5, 6, 7, 8, 9], [0, 1, 2, 3, 4, 5, 6, 7, 8, 9, 10]] rfl (by kernel_rfl) ?_
    refine qv_v (q_loads 3 Try.underlying78 rfl rfl rfl sz78 (by simp only [zb, zu, zw, zi, za]; omega)) ?_
    refine qv_v (q_loads 4 Try.underlying78 rfl rfl rfl sz78 (by simp only [zb, zu, zw, zi, za]; omega)) ?_
    refine qv_v (q_callV Try.func49 rfl rfl rfl (fun w1 H1 => hna ▸ mul_calls u v ou ov w1)) ?_
    refine qv_v (q_loads 2 Try.underlying78 rfl rfl rfl sz78 (by simp only [zb, zu, zw, zi, za]; omega)) ?_
    refine qv_v (q_loads 3 Try.underlying78 rfl rfl rfl sz78 (by simp only [zb, zu, zw, zi, za]; omega)) ?_
    refine qv_v (q_loads 13 Try.underlying78 rfl rfl rfl sz78 (by simp only [zb, zu, zw, zi, za]; omega)) ?_
    refine qv_v (q_loads 2 Try.underlying78 rfl rfl rfl sz78 (by simp only [zb, zu, zw, zi, za]; omega)) ?_
    refine qv_v (q_callV Try.func49 rfl rfl rfl (fun w1 H1 => hg1 ▸ mul_calls g ww og oww w1)) ?_
    refine qv_v (q_callV Try.func47 rfl rfl rfl (fun w1 H1 => hg2 ▸ add_calls u g1 ou og1 w1)) ?_
    refine qv_end ?_
    refine VL.keep (Sub.cons (s := 4) rfl (Sub.cons (s := 5) rfl (Sub.cons (s := 6) rfl (Sub.cons (s := 7) rfl (Sub.cons (s := 9) rfl (Sub.cons (s := 10) rfl (Sub.cons (s := 11) rfl (Sub.cons (s := 12) rfl (Sub.cons (s := 13) rfl (Sub.cons (s := 14) rfl (Sub.cons (s := 38) rfl (Sub.cons (s := 15) rfl (Sub.cons (s := 16) rfl (Sub.cons (s := 17) rfl (Sub.cons (s := 18) rfl (Sub.cons (s := 19) rfl (Sub.cons (s := 20) rfl (Sub.cons (s := 21) rfl (Sub.cons (s := 22) rfl (Sub.cons (s := 23) rfl (Sub.cons (s := 24) rfl (Sub.cons (s := 86) rfl (Sub.cons (s := 87) rfl (Sub.cons (s := 92) rfl (Sub.nil _))))))))))))))))))))))))) ?_
    refine vl_v (q_callV Try.func49 rfl rfl rfl (fun w1 H1 => hnc ▸ mul_calls ww g2 oww og2 w1)) rfl ?_
    refine l_storeA 9 rfl rfl rfl sz78 (by simp only [zb, zu, zw, zi, za]; omega) (by with_reducible first | exact bys_one _ | exact u32s_one _ | exact u64s_one _ | exact i64s_one _ | exact n64s_one _ | assumption) (by simp only [zb, zu, zw, zi, za]; omega) ?_
    simp only [List.set_cons_zero, List.set_cons_succ]
    refine l_storeA 11 rfl rfl rfl sz78 (by simp only [zb, zu, zw, zi, za]; omega) (by with_reducible first | exact bys_one _ | exact u32s_one _ | exact u64s_one _ | exact i64s_one _ | exact n64s_one _ | assumption) (by simp only [zb, zu, zw, zi, za]; omega) ?_
    simp only [List.set_cons_zero, List.set_cons_succ]
    refine vl_nil ?_
    refine (qn_n (th_n ?_))
    refine VC_seq ?_
    obtain ⟨nb, hnb⟩ : ∃ r, mulL mo mo = r := ⟨_, rfl⟩
    have onb : okE nb := by rw [← hnb]; exact mulL_okE omo omo
    have lnb := onb.1
    obtain ⟨l2, hl2⟩ : ∃ r, mulL ls ls = r := ⟨_, rfl⟩
    have ol2 : okE l2 := by rw [← hl2]; exact mulL_okE ols ols
    have ll2 := ol2.1
    obtain ⟨nd, hnd⟩ : ∃ r, mulL x l2 = r := ⟨_, rfl⟩
    have ond : okE nd := by rw [← hnd]; exact mulL_okE ox ol2
    have lnd := ond.1
    refine VC_drawV 7 [[], [], [0, 1], [], [], [], [4, 5, 2], [3, 6], [2, 7, 0, 1], [7, 8, 0, 1, 2, 3, 4, 5, 6]] [[], [], [0, 1], [], [], [], [0, 1, 2, 4, 5], [0, 1, 2, 3, 4, 5, 6], [0, 1, 2, 3, 4, 5, 6, 7], [0, 1, 2, 3, 4, 5, 6, 7, 8]] rfl (by kernel_rfl) ?_
    refine qv_v (q_loads 0 Try.underlying78 rfl rfl rfl sz78 (by simp only [zb, zu, zw, zi, za]; omega)) ?_
    refine qv_v (q_loads 0 Try.underlying78 rfl rfl rfl sz78 (by simp only [zb, zu, zw, zi, za]; omega)) ?_
    refine qv_v (q_callV Try.func49 rfl rfl rfl (fun w1 H1 => hnb ▸ mul_calls mo mo omo omo w1)) ?_
    refine qv_v (q_loads 14 Try.underlying78 rfl rfl rfl sz78 (by simp only [zb, zu, zw, zi, za]; omega)) ?_
    refine qv_v (q_loads 1 Try.underlying78 rfl rfl rfl sz78 (by simp only [zb, zu, zw, zi, za]; omega)) ?_
    refine qv_v (q_loads 1 Try.underlying78 rfl rfl rfl sz78 (by simp only [zb, zu, zw, zi, za]; omega)) ?_
    refine qv_v (q_callV Try.func49 rfl rfl rfl (fun w1 H1 => hl2 ▸ mul_calls ls ls ols ols w1)) ?_
    refine qv_end ?_
    refine VL.keep (Sub.cons (s := 4) rfl (Sub.cons (s := 5) rfl (Sub.cons (s := 6) rfl (Sub.cons (s := 7) rfl (Sub.cons (s := 9) rfl (Sub.cons (s := 10) rfl (Sub.cons (s := 11) rfl (Sub.cons (s := 12) rfl (Sub.cons (s := 13) rfl (Sub.cons (s := 14) rfl (Sub.cons (s := 38) rfl (Sub.cons (s := 15) rfl (Sub.cons (s := 16) rfl (Sub.cons (s := 17) rfl (Sub.cons (s := 18) rfl (Sub.cons (s := 19) rfl (Sub.cons (s := 20) rfl (Sub.cons (s := 21) rfl (Sub.cons (s := 22) rfl (Sub.cons (s := 23) rfl (Sub.cons (s := 24) rfl (Sub.cons (s := 96) rfl (Sub.cons (s := 97) rfl (Sub.cons (s := 100) rfl (Sub.nil _))))))))))))))))))))))))) ?_
    refine vl_v (q_callV Try.func49 rfl rfl rfl (fun w1 H1 => hnd ▸ mul_calls x l2 ox ol2 w1)) rfl ?_
    refine l_storeA 10 rfl rfl rfl sz78 (by simp only [zb, zu, zw, zi, za]; omega) (by with_reducible first | exact bys_one _ | exact u32s_one _ | exact u64s_one _ | exact i64s_one _ | exact n64s_one _ | assumption) (by simp only [zb, zu, zw, zi, za]; omega) ?_
    simp only [List.set_cons_zero, List.set_cons_succ]
    refine l_storeA 12 rfl rfl rfl sz78 (by simp only [zb, zu, zw, zi, za]; omega) (by with_reducible first | exact bys_one _ | exact u32s_one _ | exact u64s_one _ | exact i64s_one _ | exact n64s_one _ | assumption) (by simp only [zb, zu, zw, zi, za]; omega) ?_
    simp only [List.set_cons_zero, List.set_cons_succ]
    refine vl_nil ?_
    refine (qn_n (th_n ?_))
    have hst : stepC addL subL mulL x g (ua, ub, uc, ud) = (na, nb, nc, nd) := by rw [← hna, ← hnb, ← hnc, ← hnd, ← hg2, ← hg1, ← hl2, ← hww, ← hmo, ← hls, ← hu, ← hv, ← hy, ← hzz, ← hs1, ← hs2, ← he, ← hf]; rfl
    have hnext : F (j + 1) = sw (sbit k i) (na, nb, nc, nd) := by rw [Fs j, ← hi, ← hFj, ← hq1, hst]
    refine VC_pickL (ks := [9, 10, 11, 12, 13, 14, 15, 16, 17, 18, 19]) (by decide) rfl ?_
    refine VC_region ?_
    refine vl_v (q_move rfl) rfl ?_
    refine vl_v (q_move rfl) rfl ?_
    refine l_clo (F := fun v L' => v = .tuple #[] ∧ L' = swL 78 b9 b10 b12 b11 (sw (sbit k i) (na, nb, nc, nd)) ++ [.blk b7 78 (i64s g), .blk b6 78 (i64s x), .blk b5 23 (bys cb), .blk b4 23 (bys (List.replicate 32 0)), .blk b8 78 (i64s one), .blk b3 23 (bys p), .blk b2 23 (bys k)]) rfl Try.func46 rfl rfl rfl (fun w1 H1 => (swap_calls (sbit k i) na nb nc nd lna lnb lnc lnd b9 b10 b12 b11 w1 H1).mono fun e w' h => ⟨_, _, h.1, ⟨rfl, rfl⟩, h.2⟩) rfl ?_
    rintro v L' ⟨rfl, rfl⟩
    rw [← hnext]
    simp only [swL, List.cons_append, List.nil_append]
    refine vl_nil ?_
    refine (bl_n (th_n ?_))
    refine VC_region ?_
    refine vl_v (q_move rfl) rfl ?_
    refine vl_v (q_sub_i rfl rfl (by omega) (by omega)) rfl ?_
    refine vl_v (q_assign rfl) rfl ?_
    refine vl_nil ?_
    refine (th_n ?_)
    refine ⟨j + 1, by omega, by omega, (Sub.cons (s := 4) rfl (Sub.cons (s := 5) rfl (Sub.cons (s := 6) rfl (Sub.cons (s := 7) rfl (Sub.cons (s := 9) rfl (Sub.cons (s := 10) rfl (Sub.cons (s := 11) rfl (Sub.cons (s := 12) rfl (Sub.cons (s := 13) rfl (Sub.cons (s := 14) (congrArg (fun x : Int => some (vI x)) (show ((i : Int) - 1 : Int) = 254 - ((j + 1 : Nat) : Int) by omega)) (Sub.nil _))))))))))), fun w H => H⟩
  · skip
    have ht38 := of_decide_eq_false ht38
    obtain rfl : j = 255 := by omega
    rw [← hFj] at hres
    refine VC_exit ?_
    refine (th_x (th_x (bl_xs (th_n ?_))))
    refine VC_seq ?_
    obtain ⟨ic, hic⟩ : ∃ r, invL uc0 = r := ⟨_, rfl⟩
    have oic : okE ic := by rw [← hic]; exact invL_okE oc0
    have lic := oic.1
    obtain ⟨m2, hm2⟩ : ∃ r, mulL ua0 ic = r := ⟨_, rfl⟩
    have om2 : okE m2 := by rw [← hm2]; exact mulL_okE oa0 oic
    have lm2 := om2.1
    have hr2 : keyL m2 = res := by rw [← hm2, ← hic]; exact hres
    refine VC_drawV 3 [[], [], [1], [0, 2], [3], [4, 0, 1, 2, 3]] [[], [], [1], [0, 1, 2], [0, 1, 2, 3], [0, 1, 2, 3, 4]] rfl (by kernel_rfl) ?_
    refine qv_v (q_loads 0 Try.underlying78 rfl rfl rfl sz78 (by simp only [zb, zu, zw, zi, za]; omega)) ?_
    refine qv_v (q_loads 2 Try.underlying78 rfl rfl rfl sz78 (by simp only [zb, zu, zw, zi, za]; omega)) ?_
    refine qv_v (q_callV Try.func50 rfl rfl rfl (fun w1 H1 => hic ▸ inv_calls uc0 oc0 w1)) ?_
    refine qv_end ?_
    refine VL.keep (Sub.cons (s := 4) rfl (Sub.cons (s := 5) rfl (Sub.cons (s := 6) rfl (Sub.cons (s := 7) rfl (Sub.cons (s := 9) rfl (Sub.cons (s := 10) rfl (Sub.cons (s := 11) rfl (Sub.cons (s := 12) rfl (Sub.cons (s := 13) rfl (Sub.cons (s := 14) rfl (Sub.cons (s := 38) rfl (Sub.cons (s := 105) rfl (Sub.cons (s := 107) rfl (Sub.nil _)))))))))))))) ?_
    refine vl_v (q_callV Try.func49 rfl rfl rfl (fun w1 H1 => hm2 ▸ mul_calls ua0 ic oa0 oic w1)) rfl ?_
    refine vl_v (q_callV Try.func51 rfl rfl rfl (fun w1 H1 => hr2 ▸ key_calls m2 om2 w1)) rfl ?_
    refine l_storeA 7 rfl rfl rfl sz23 (by simp only [zb, zu, zw, zi, za]; omega) (by with_reducible first | exact bys_one _ | exact u32s_one _ | exact u64s_one _ | exact i64s_one _ | exact n64s_one _ | assumption) (by simp only [zs, zr, zm, za, zb, zu, zw, zi, zt, zd, zc, zn, *] <;> first | done | omega) ?_
    simp only [List.set_cons_zero, List.set_cons_succ]
    refine vl_nil ?_
    refine (qn_n (th_n ?_))
    refine VC_ret ?_
    refine ⟨_, resC1 7 rfl Try.underlying23 rfl rfl rfl sz23 (by simp only [zb, zu, zw, zi, za]; omega), ?_⟩
    exact rfl
end Go.Proofs.Ytabmfndiepmcgaa
end
