/- What the functions of package chacha do: a block. No condition. -/
import Derived.Test.YtjlhehdkopponaaC04b
namespace Go.Proofs.Ytjlhehdkopponaa
open Go.RowKit Go.PBYtjlhehdkopponaa
set_option linter.unusedVariables false
set_option linter.unusedSimpArgs false
set_option maxRecDepth 10000

set_option maxHeartbeats 1000000 in
theorem block_calls (k nn : List UInt8) (nu : UInt32) (hk : k.length = 32) (hn : nn.length = 12) (w : World) :
    Calls Try.prog 9 #[.agg (bys k).toArray, .agg (bys nn).toArray, vU32 nu] w fun e w' => e = .returned (.agg (bys (block k nn nu)).toArray) ∧ Kept [] w w' := by
  have hv := beg_length k nn nu
  refine enter (n := 69) (R := fun e L => e = .returned (.agg (bys (block k nn nu)).toArray)) [.agg (bys k).toArray, .agg (bys nn).toArray, vU32 nu] Try.func9 rfl rfl rfl (St.refl w) ?_ (fun e w' L' h H => ⟨h, H.kept⟩)
  refine VC_seq ?_
  refine VC_region ?_
  refine l_boxA rfl rfl ?_
  intro b3
  refine l_boxA rfl rfl ?_
  intro b4
  refine l_allocA zr29 rfl ?_
  intro b6
  refine vl_nil ?_
  refine (th_n ?_)
  refine VC_seq ?_
  refine VC_region ?_
  first | (refine vl_v (q_loads 2 Try.underlying23 rfl rfl rfl sz23 (by first | omega | with_reducible assumption | (simp only [List.length_set, List.length_replicate, List.length_map, List.length_append, bys_length, u32s_length, u64s_length, i64s_length, List.length_take, List.length_drop, List.length_cons, List.length_nil, *] <;> first | done | omega) | rfl)) rfl ?_) | (refine vl_v (q_loadsAt 2 Try.underlying23 rfl rfl rfl sz23 (by rfl) (by first | omega | with_reducible assumption | (simp only [List.length_set, List.length_replicate, List.length_map, List.length_append, bys_length, u32s_length, u64s_length, i64s_length, List.length_take, List.length_drop, List.length_cons, List.length_nil, *] <;> first | done | omega) | rfl)) rfl ?_)
  first | (refine vl_v (q_loads 1 Try.underlying24 rfl rfl rfl sz24 (by first | omega | with_reducible assumption | (simp only [List.length_set, List.length_replicate, List.length_map, List.length_append, bys_length, u32s_length, u64s_length, i64s_length, List.length_take, List.length_drop, List.length_cons, List.length_nil, *] <;> first | done | omega) | rfl)) rfl ?_) | (refine vl_v (q_loadsAt 1 Try.underlying24 rfl rfl rfl sz24 (by rfl) (by first | omega | with_reducible assumption | (simp only [List.length_set, List.length_replicate, List.length_map, List.length_append, bys_length, u32s_length, u64s_length, i64s_length, List.length_take, List.length_drop, List.length_cons, List.length_nil, *] <;> first | done | omega) | rfl)) rfl ?_)
  refine vl_v (q_move rfl) rfl ?_
  refine vl_v (q_callV Try.func13 rfl rfl rfl (fun w1 H1 => begin_calls k nn nu hk hn w1)) rfl ?_
  refine l_allocA zr38 rfl ?_
  intro b7
  refine l_storeA 0 rfl rfl rfl sz38 (by first | omega | with_reducible assumption | (simp only [List.length_set, List.length_replicate, List.length_map, List.length_append, bys_length, u32s_length, u64s_length, i64s_length, List.length_take, List.length_drop, List.length_cons, List.length_nil, *] <;> first | done | omega) | rfl) (by first | exact bys_one _ | exact u32s_one _ | exact u64s_one _ | exact i64s_one _ | with_reducible assumption | exact one_all rfl | (refine app_one ?_ ?_ <;> first | exact bys_one _ | (simp; done))) (by first | omega | with_reducible assumption | (simp only [List.length_set, List.length_replicate, List.length_map, List.length_append, bys_length, u32s_length, u64s_length, i64s_length, List.length_take, List.length_drop, List.length_cons, List.length_nil, *] <;> first | done | omega) | rfl) ?_
  simp only [List.set_cons_zero, List.set_cons_succ]
  refine vl_nil ?_
  refine (th_n ?_)
  refine VC_seq ?_
  refine VC_region ?_
  first | (refine vl_v (q_loads 0 Try.underlying38 rfl rfl rfl sz38 (by first | omega | with_reducible assumption | (simp only [List.length_set, List.length_replicate, List.length_map, List.length_append, bys_length, u32s_length, u64s_length, i64s_length, List.length_take, List.length_drop, List.length_cons, List.length_nil, *] <;> first | done | omega) | rfl)) rfl ?_) | (refine vl_v (q_loadsAt 0 Try.underlying38 rfl rfl rfl sz38 (by rfl) (by first | omega | with_reducible assumption | (simp only [List.length_set, List.length_replicate, List.length_map, List.length_append, bys_length, u32s_length, u64s_length, i64s_length, List.length_take, List.length_drop, List.length_cons, List.length_nil, *] <;> first | done | omega) | rfl)) rfl ?_)
  refine l_allocA zr38 rfl ?_
  intro b8
  refine l_storeA 0 rfl rfl rfl sz38 (by first | omega | with_reducible assumption | (simp only [List.length_set, List.length_replicate, List.length_map, List.length_append, bys_length, u32s_length, u64s_length, i64s_length, List.length_take, List.length_drop, List.length_cons, List.length_nil, *] <;> first | done | omega) | rfl) (by first | exact bys_one _ | exact u32s_one _ | exact u64s_one _ | exact i64s_one _ | with_reducible assumption | exact one_all rfl | (refine app_one ?_ ?_ <;> first | exact bys_one _ | (simp; done))) (by first | omega | with_reducible assumption | (simp only [List.length_set, List.length_replicate, List.length_map, List.length_append, bys_length, u32s_length, u64s_length, i64s_length, List.length_take, List.length_drop, List.length_cons, List.length_nil, *] <;> first | done | omega) | rfl) ?_
  simp only [List.set_cons_zero, List.set_cons_succ]
  refine vl_nil ?_
  refine (th_n ?_)
  refine VC_seq ?_
  refine VC_seq ?_
  refine VC_region ?_
  refine vl_v (q_move rfl) rfl ?_
  refine vl_nil ?_
  refine (th_n ?_)
  refine VC_block ?_
  refine VC_loop (ι := Nat) (fun r => r ≤ 10) (fun r => [(6, vP b6 0), (7, vP b7 0), (8, vP b8 0), (18, vN r)]) (fun r => [.blk b8 38 (u32s (rnd (beg k nn nu) r)), .blk b7 38 (u32s (beg k nn nu)), .blk b6 29 (bys (List.replicate 64 0))]) (fun r => 10 - r) 0 (by omega) (Sub.cons (s := 6) rfl (Sub.cons (s := 7) rfl (Sub.cons (s := 8) rfl (Sub.cons (s := 18) rfl (Sub.nil _))))) (fun w H => St.pick H (ks := [0, 1, 2]) (by decide) rfl) ?_
  rintro r hp
  have hr := (rnd_length (beg k nn nu) r).trans hv
  refine VC_seq ?_
  refine VC_region ?_
  first | (refine vl_v (q_lss_n (q := 10) Try.underlying3 rfl rfl) rfl ?_) | (refine vl_v (q_lss_k Try.underlying3 rfl rfl) rfl ?_)
  refine vl_nil ?_
  refine (th_n ?_)
  refine VC_seq ?_
  refine VC_cond rfl (fun ht19 => ?_) (fun ht19 => ?_)
  · skip
    have ht19 := of_decide_eq_true ht19
    refine VC_skip ?_
    refine (th_n ?_)
    refine VC_seq ?_
    refine VC_block ?_
    refine VC_seq ?_
    refine VC_seq ?_
    refine VC_region ?_
    refine vl_v (q_move rfl) rfl ?_
    refine vl_nil ?_
    refine (th_n ?_)
    refine VC_block ?_
    refine VC_loop (ι := Nat) (fun i => i ≤ 4) (fun i => [(6, vP b6 0), (7, vP b7 0), (8, vP b8 0), (18, vN r), (20, vN i)]) (fun i => [.blk b8 38 (u32s (cols (rnd (beg k nn nu) r) i)), .blk b7 38 (u32s (beg k nn nu)), .blk b6 29 (bys (List.replicate 64 0))]) (fun i => 4 - i) 0 (by omega) (Sub.cons (s := 6) rfl (Sub.cons (s := 7) rfl (Sub.cons (s := 8) rfl (Sub.cons (s := 18) rfl (Sub.cons (s := 20) rfl (Sub.nil _)))))) (fun w H => H) ?_
    rintro i hp
    have hi := (cols_length (rnd (beg k nn nu) r) i).trans hr
    refine VC_seq ?_
    refine VC_region ?_
    first | (refine vl_v (q_lss_n (q := 4) Try.underlying3 rfl rfl) rfl ?_) | (refine vl_v (q_lss_k Try.underlying3 rfl rfl) rfl ?_)
    refine vl_nil ?_
    refine (th_n ?_)
    refine VC_seq ?_
    refine VC_cond rfl (fun ht21 => ?_) (fun ht21 => ?_)
    · skip
      have ht21 := of_decide_eq_true ht21
      refine VC_skip ?_
      refine (th_n ?_)
      refine VC_seq ?_
      refine VC_block ?_
      refine VC_seq ?_
      refine VC_region ?_
      refine vl_v (q_move rfl) rfl ?_
      refine vl_v (q_assign rfl) rfl ?_
      refine vl_nil ?_
      refine (th_n ?_)
      refine VC_region ?_
      refine vl_v (q_move rfl) rfl ?_
      refine vl_v (q_move rfl) rfl ?_
      first | (refine vl_v (q_add_n (p := 4) rfl rfl (by omega)) rfl ?_) | (refine vl_v (q_add_i rfl rfl (by omega) (by omega)) rfl ?_)
      refine vl_v (q_move rfl) rfl ?_
      first | (refine vl_v (q_add_n (p := 8) rfl rfl (by omega)) rfl ?_) | (refine vl_v (q_add_i rfl rfl (by omega) (by omega)) rfl ?_)
      refine vl_v (q_move rfl) rfl ?_
      first | (refine vl_v (q_add_n (p := 12) rfl rfl (by omega)) rfl ?_) | (refine vl_v (q_add_i rfl rfl (by omega) (by omega)) rfl ?_)
      refine l_callE Try.func14 rfl rfl rfl (fun w1 H1 => quarter_calls (cols (rnd (beg k nn nu) r) i) i (4 + i) (8 + i) (12 + i) b8 hi (by omega) (by omega) (by omega) (by omega) w1 H1) rfl ?_
      refine vl_nil ?_
      refine (bl_n (th_n ?_))
      refine VC_region ?_
      first | (refine vl_v (q_add_n (q := 1) rfl rfl (by omega)) rfl ?_) | (refine vl_v (q_add_i rfl rfl (by omega) (by omega)) rfl ?_)
      refine vl_v (q_move rfl) rfl ?_
      refine vl_nil ?_
      refine (th_n ?_)
      refine ⟨i + 1, by omega, by omega, (Sub.cons (s := 6) rfl (Sub.cons (s := 7) rfl (Sub.cons (s := 8) rfl (Sub.cons (s := 18) rfl (Sub.cons (s := 20) rfl (Sub.nil _)))))), fun w H => H⟩
    · skip
      have ht21 := of_decide_eq_false ht21
      obtain rfl : i = 4 := by omega
      refine VC_exit ?_
      refine (th_x (th_x (bl_xs (th_n ?_))))
      refine VC_seq ?_
      refine VC_region ?_
      refine vl_v (q_move rfl) rfl ?_
      refine vl_nil ?_
      refine (th_n ?_)
      refine VC_block ?_
      refine VC_loop (ι := Nat) (fun j => j ≤ 4) (fun j => [(6, vP b6 0), (7, vP b7 0), (8, vP b8 0), (18, vN r), (32, vN j)]) (fun j => [.blk b8 38 (u32s (diags (cols (rnd (beg k nn nu) r) 4) j)), .blk b7 38 (u32s (beg k nn nu)), .blk b6 29 (bys (List.replicate 64 0))]) (fun j => 4 - j) 0 (by omega) (Sub.cons (s := 6) rfl (Sub.cons (s := 7) rfl (Sub.cons (s := 8) rfl (Sub.cons (s := 18) rfl (Sub.cons (s := 32) rfl (Sub.nil _)))))) (fun w H => H) ?_
      rintro j hp
      have hj := (diags_length (cols (rnd (beg k nn nu) r) 4) j).trans hi
      refine VC_seq ?_
      refine VC_region ?_
      first | (refine vl_v (q_lss_n (q := 4) Try.underlying3 rfl rfl) rfl ?_) | (refine vl_v (q_lss_k Try.underlying3 rfl rfl) rfl ?_)
      refine vl_nil ?_
      refine (th_n ?_)
      refine VC_seq ?_
      refine VC_cond rfl (fun ht33 => ?_) (fun ht33 => ?_)
      · skip
        have ht33 := of_decide_eq_true ht33
        refine VC_skip ?_
        refine (th_n ?_)
        refine VC_seq ?_
        refine VC_block ?_
        refine VC_seq ?_
        refine VC_region ?_
        refine vl_v (q_move rfl) rfl ?_
        refine vl_v (q_assign rfl) rfl ?_
        refine vl_nil ?_
        refine (th_n ?_)
        refine VC_region ?_
        refine vl_v (q_move rfl) rfl ?_
        refine vl_v (q_move rfl) rfl ?_
        first | (refine vl_v (q_add_n (q := 1) rfl rfl (by omega)) rfl ?_) | (refine vl_v (q_add_i rfl rfl (by omega) (by omega)) rfl ?_)
        refine vl_v (q_rem_n (q := 4) rfl rfl (by omega)) rfl ?_
        first | (refine vl_v (q_add_n (p := 4) rfl rfl (by omega)) rfl ?_) | (refine vl_v (q_add_i rfl rfl (by omega) (by omega)) rfl ?_)
        refine vl_v (q_move rfl) rfl ?_
        first | (refine vl_v (q_add_n (q := 2) rfl rfl (by omega)) rfl ?_) | (refine vl_v (q_add_i rfl rfl (by omega) (by omega)) rfl ?_)
        refine vl_v (q_rem_n (q := 4) rfl rfl (by omega)) rfl ?_
        first | (refine vl_v (q_add_n (p := 8) rfl rfl (by omega)) rfl ?_) | (refine vl_v (q_add_i rfl rfl (by omega) (by omega)) rfl ?_)
        refine vl_v (q_move rfl) rfl ?_
        first | (refine vl_v (q_add_n (q := 3) rfl rfl (by omega)) rfl ?_) | (refine vl_v (q_add_i rfl rfl (by omega) (by omega)) rfl ?_)
        refine vl_v (q_rem_n (q := 4) rfl rfl (by omega)) rfl ?_
        first | (refine vl_v (q_add_n (p := 12) rfl rfl (by omega)) rfl ?_) | (refine vl_v (q_add_i rfl rfl (by omega) (by omega)) rfl ?_)
        refine l_callE Try.func14 rfl rfl rfl (fun w1 H1 => quarter_calls (diags (cols (rnd (beg k nn nu) r) 4) j) j (4 + (j + 1) % 4) (8 + (j + 2) % 4) (12 + (j + 3) % 4) b8 hj (by omega) (by omega) (by omega) (by omega) w1 H1) rfl ?_
        refine vl_nil ?_
        refine (bl_n (th_n ?_))
        refine VC_region ?_
        first | (refine vl_v (q_add_n (q := 1) rfl rfl (by omega)) rfl ?_) | (refine vl_v (q_add_i rfl rfl (by omega) (by omega)) rfl ?_)
        refine vl_v (q_move rfl) rfl ?_
        refine vl_nil ?_
        refine (th_n ?_)
        refine ⟨j + 1, by omega, by omega, (Sub.cons (s := 6) rfl (Sub.cons (s := 7) rfl (Sub.cons (s := 8) rfl (Sub.cons (s := 18) rfl (Sub.cons (s := 32) rfl (Sub.nil _)))))), fun w H => H⟩
      · skip
        have ht33 := of_decide_eq_false ht33
        obtain rfl : j = 4 := by omega
        refine VC_exit ?_
        refine (th_x (th_x (bl_xs (bl_n (th_n ?_)))))
        refine VC_region ?_
        first | (refine vl_v (q_add_n (q := 1) rfl rfl (by omega)) rfl ?_) | (refine vl_v (q_add_i rfl rfl (by omega) (by omega)) rfl ?_)
        refine vl_v (q_move rfl) rfl ?_
        refine vl_nil ?_
        refine (th_n ?_)
        refine ⟨r + 1, by omega, by omega, (Sub.cons (s := 6) rfl (Sub.cons (s := 7) rfl (Sub.cons (s := 8) rfl (Sub.cons (s := 18) rfl (Sub.nil _))))), fun w H => H⟩
  · skip
    have ht19 := of_decide_eq_false ht19
    obtain rfl : r = 10 := by omega
    refine VC_exit ?_
    refine (th_x (th_x (bl_xs (th_n ?_))))
    refine VC_seq ?_
    refine VC_region ?_
    refine l_allocA zr29 rfl ?_
    intro b11
    refine vl_nil ?_
    refine (th_n ?_)
    refine VC_seq ?_
    refine VC_seq ?_
    refine VC_region ?_
    refine vl_v (q_move rfl) rfl ?_
    refine vl_nil ?_
    refine (th_n ?_)
    refine VC_block ?_
    refine VC_loop (ι := Nat) (fun q => q ≤ 16) (fun q => [(6, vP b6 0), (7, vP b7 0), (8, vP b8 0), (11, vP b11 0), (51, vN q)]) (fun q => [.blk b11 29 (bys (outP (beg k nn nu) (rnd (beg k nn nu) 10) q ++ List.replicate (64 - 4 * q) 0)), .blk b8 38 (u32s (rnd (beg k nn nu) 10)), .blk b7 38 (u32s (beg k nn nu)), .blk b6 29 (bys (List.replicate 64 0))]) (fun q => 16 - q) 0 (by omega) (Sub.cons (s := 6) rfl (Sub.cons (s := 7) rfl (Sub.cons (s := 8) rfl (Sub.cons (s := 11) rfl (Sub.cons (s := 51) rfl (Sub.nil _)))))) (fun w H => H) ?_
    rintro q hp
    have ho := outP_length (beg k nn nu) (rnd (beg k nn nu) 10) q
    refine VC_seq ?_
    refine VC_region ?_
    first | (refine vl_v (q_lss_n (q := 16) Try.underlying3 rfl rfl) rfl ?_) | (refine vl_v (q_lss_k Try.underlying3 rfl rfl) rfl ?_)
    refine vl_nil ?_
    refine (th_n ?_)
    refine VC_seq ?_
    refine VC_cond rfl (fun ht52 => ?_) (fun ht52 => ?_)
    · skip
      have ht52 := of_decide_eq_true ht52
      refine VC_skip ?_
      refine (th_n ?_)
      refine VC_seq ?_
      refine VC_block ?_
      refine VC_seq ?_
      refine VC_region ?_
      refine vl_v (q_move rfl) rfl ?_
      refine vl_v (q_assign rfl) rfl ?_
      refine vl_nil ?_
      refine (th_n ?_)
      have hx1 := UInt32.toNat_lt ((beg k nn nu).getD q 0 + (rnd (beg k nn nu) 10).getD q 0)
      refine VC_drawM 12 [[], [0], [1], [], [3], [4], [], [6], [7], [5, 8], [9], [10], [2, 11]] [[], [0], [0, 1], [], [3], [3, 4], [], [6], [6, 7], [3, 4, 5, 6, 7, 8], [3, 4, 5, 6, 7, 8, 9], [3, 4, 5, 6, 7, 8, 9, 10], [0, 1, 2, 3, 4, 5, 6, 7, 8, 9, 10, 11]] rfl (by kernel_rfl) ?_
      refine qm_v (fun xs hx => q_move rfl) ?_
      first | (refine qm_v (fun xs hx => q_mul_n (p := 4) rfl rfl (by omega)) ?_) | (refine qm_v (fun xs hx => q_mul_i rfl rfl (by omega) (by omega)) ?_)
      refine qm_v (fun xs hx => q_slcA Try.underlying29 sz5 rfl ⟨_, rfl⟩ rfl rfl (.inl rfl) (by omega) (by omega) (by omega) (by omega) (by (try simp only [Nat.mul_one, Nat.zero_add, Nat.zero_mul, Nat.mul_zero, Nat.add_zero]) <;> rfl)) ?_
      refine qm_v (fun xs hx => q_move rfl) ?_
      first | (refine qm_v (fun xs hx => q_idxA Try.underlying38 sz25 rfl rfl (by omega) (r := _) (by rw [Nat.mul_one, Nat.zero_add])) ?_) | (refine qm_v (fun xs hx => q_idxA Try.underlying38 sz25 rfl rfl (by omega) rfl) ?_)
      first | (refine qm_v (fun xs hx => q_load 2 Try.underlying25 rfl rfl rfl (u32s_at (by first | omega | with_reducible assumption | (simp only [List.length_set, List.length_replicate, List.length_map, List.length_append, bys_length, u32s_length, u64s_length, i64s_length, List.length_take, List.length_drop, List.length_cons, List.length_nil, *] <;> first | done | omega) | rfl))) ?_) | (refine qm_v (fun xs hx => q_load 2 Try.underlying25 rfl rfl rfl rfl) ?_)
      refine qm_v (fun xs hx => q_move rfl) ?_
      first | (refine qm_v (fun xs hx => q_idxA Try.underlying38 sz25 rfl rfl (by omega) (r := _) (by rw [Nat.mul_one, Nat.zero_add])) ?_) | (refine qm_v (fun xs hx => q_idxA Try.underlying38 sz25 rfl rfl (by omega) rfl) ?_)
      first | (refine qm_v (fun xs hx => q_load 1 Try.underlying25 rfl rfl rfl (u32s_at (by first | omega | with_reducible assumption | (simp only [List.length_set, List.length_replicate, List.length_map, List.length_append, bys_length, u32s_length, u64s_length, i64s_length, List.length_take, List.length_drop, List.length_cons, List.length_nil, *] <;> first | done | omega) | rfl))) ?_) | (refine qm_v (fun xs hx => q_load 1 Try.underlying25 rfl rfl rfl rfl) ?_)
      refine qm_v (fun xs hx => q_add_u32 rfl rfl) ?_
      refine qm_v (fun xs hx => q_conv_k (r := (((beg k nn nu).getD q 0 + (rnd (beg k nn nu) 10).getD q 0).toNat : Int)) Try.underlying25 Try.underlying42 rfl (by rw [IntKind.wrap_u64]; omega)) ?_
      refine qm_a (fun xs hx => q_callR Try.func15 rfl rfl rfl (fun w1 H1 => low_calls _ 4 4 (by decide) (by decide) w1)) ?_
      refine qm_end ?_
      intro xs hx
      obtain ⟨⟨A65, c65, e65, hc65, hm65⟩, _⟩ := hx
      simp only [e65]
      simp only [resT, nRow, nRowT, tupAt_0, List.append_assoc, List.nil_append, List.append_nil, List.cons_append, List.singleton_append, e65]
      refine VL.keep (Sub.cons (s := 6) rfl (Sub.cons (s := 7) rfl (Sub.cons (s := 8) rfl (Sub.cons (s := 11) rfl (Sub.cons (s := 51) rfl (Sub.cons (s := 52) rfl (Sub.cons (s := 12) rfl (Sub.cons (s := 56) rfl (Sub.cons (s := 65) rfl (Sub.nil _)))))))))) ?_
      refine l_copy 1 rfl rfl rfl Try.underlying32 Try.underlying32 sz5 (Reads.row 0 rfl) (by first | omega | with_reducible assumption | (simp only [List.length_set, List.length_replicate, List.length_map, List.length_append, bys_length, u32s_length, u64s_length, i64s_length, List.length_take, List.length_drop, List.length_cons, List.length_nil, *] <;> first | done | omega) | rfl) (by first | exact bys_one _ | exact u32s_one _ | exact u64s_one _ | exact i64s_one _ | with_reducible assumption | exact one_all rfl | (refine app_one ?_ ?_ <;> first | exact bys_one _ | (simp; done))) (by first | omega | with_reducible assumption | (simp only [List.length_set, List.length_replicate, List.length_map, List.length_append, bys_length, u32s_length, u64s_length, i64s_length, List.length_take, List.length_drop, List.length_cons, List.length_nil, *] <;> first | done | omega) | rfl) rfl ?_
      simp only [List.set_cons_zero, List.set_cons_succ]
      rw [outP_copy _ _ q ht52]
      refine vl_nil ?_
      refine (qn_n (bl_n (th_n ?_)))
      refine VC_region ?_
      first | (refine vl_v (q_add_n (q := 1) rfl rfl (by omega)) rfl ?_) | (refine vl_v (q_add_i rfl rfl (by omega) (by omega)) rfl ?_)
      refine vl_v (q_move rfl) rfl ?_
      refine vl_nil ?_
      refine (th_n ?_)
      refine ⟨q + 1, by omega, by omega, (Sub.cons (s := 6) rfl (Sub.cons (s := 7) rfl (Sub.cons (s := 8) rfl (Sub.cons (s := 11) rfl (Sub.cons (s := 51) rfl (Sub.nil _)))))), fun w H => St.pick H (ks := [1, 2, 3, 4]) (by decide) rfl⟩
    · skip
      have ht52 := of_decide_eq_false ht52
      obtain rfl : q = 16 := by omega
      rw [show List.replicate (64 - 4 * 16) (0 : UInt8) = [] from rfl, List.append_nil]
      refine VC_exit ?_
      refine (th_x (th_x (bl_xs (th_n ?_))))
      refine VC_seq ?_
      refine VC_region ?_
      first | (refine vl_v (q_loads 0 Try.underlying29 rfl rfl rfl sz29 (by first | omega | with_reducible assumption | (simp only [List.length_set, List.length_replicate, List.length_map, List.length_append, bys_length, u32s_length, u64s_length, i64s_length, List.length_take, List.length_drop, List.length_cons, List.length_nil, *] <;> first | done | omega) | rfl)) rfl ?_) | (refine vl_v (q_loadsAt 0 Try.underlying29 rfl rfl rfl sz29 (by rfl) (by first | omega | with_reducible assumption | (simp only [List.length_set, List.length_replicate, List.length_map, List.length_append, bys_length, u32s_length, u64s_length, i64s_length, List.length_take, List.length_drop, List.length_cons, List.length_nil, *] <;> first | done | omega) | rfl)) rfl ?_)
      refine l_storeA 3 rfl rfl rfl sz29 (by first | omega | with_reducible assumption | (simp only [List.length_set, List.length_replicate, List.length_map, List.length_append, bys_length, u32s_length, u64s_length, i64s_length, List.length_take, List.length_drop, List.length_cons, List.length_nil, *] <;> first | done | omega) | rfl) (by first | exact bys_one _ | exact u32s_one _ | exact u64s_one _ | exact i64s_one _ | with_reducible assumption | exact one_all rfl | (refine app_one ?_ ?_ <;> first | exact bys_one _ | (simp; done))) (by first | omega | with_reducible assumption | (simp only [List.length_set, List.length_replicate, List.length_map, List.length_append, bys_length, u32s_length, u64s_length, i64s_length, List.length_take, List.length_drop, List.length_cons, List.length_nil, *] <;> first | done | omega) | rfl) ?_
      simp only [List.set_cons_zero, List.set_cons_succ]
      refine vl_nil ?_
      refine (th_n ?_)
      refine VC_ret ?_
      refine ⟨_, resC1 3 rfl Try.underlying29 rfl rfl rfl sz29 (by first | omega | with_reducible assumption | (simp only [List.length_set, List.length_replicate, List.length_map, List.length_append, bys_length, u32s_length, u64s_length, i64s_length, List.length_take, List.length_drop, List.length_cons, List.length_nil, *] <;> first | done | omega) | rfl), ?_⟩
      exact rfl
end Go.Proofs.Ytjlhehdkopponaa
