/- Bytes that are parted where a block ends are turned as in one: the statement ChachaParts. No condition. -/
import Derived.Test.YtjlhehdkopponaaRows
import Derived.Test.YtjlhehdkopponaaJ04
namespace Go.Proofs.Ytjlhehdkopponaa
open Go.RowKit Go.PBYtjlhehdkopponaa
set_option linter.unusedVariables false
set_option linter.unusedSimpArgs false
set_option maxRecDepth 10000

set_option maxHeartbeats 2000000 in
theorem chachaParts.walk (w : World) (v0 : Value) (j : Job) (h0 : JobV v0 j) (v1 : Value) (b : List UInt8) (h3 : BsArg w v1 b) (n : Int) (h5 : (Lit.int .i64 n).wf = true) :
    Calls Try.prog 6 #[v0, v1, .int .i64 n] w fun e w' => e = .returned (.bool true) ∧ Kept [] w w' := by
  obtain ⟨rfl, h1, h2⟩ := h0
  obtain ⟨A, c, rfl, hc, _, hA⟩ := h3
  have hl := jobC_length h1 h2
  have hbk := block_length j.1 j.2.1 j.2.2
  have hw := wf_i64 h5
  refine enter (n := 92) (R := fun e L => e = .returned (.bool true)) [.agg (jobC j).toArray, .slice A b.length c, vI n] Try.func6 rfl rfl rfl (St.refl w) ?_ (fun e w' L' h H => ⟨h, H.kept⟩)
  refine VC_seq ?_
  refine VC_region ?_
  refine l_boxA rfl rfl ?_
  intro b3
  refine vl_v (q_assign rfl) rfl ?_
  refine vl_nil ?_
  refine (th_n ?_)
  refine VC_seq ?_
  refine VC_region ?_
  refine vl_v (q_callV Try.func8 rfl rfl rfl (fun w1 H1 => awake_calls w1)) rfl ?_
  refine vl_v (q_assign rfl) rfl ?_
  refine vl_nil ?_
  refine (th_n ?_)
  refine VC_seq ?_
  refine VC_seq ?_
  refine VC_region ?_
  refine vl_v (q_move rfl) rfl ?_
  refine vl_v (q_lenS Try.underlying32 rfl) rfl ?_
  first | (refine vl_v (q_gtr_n (q := 1000) Try.underlying3 rfl rfl) rfl ?_) | (refine vl_v (q_gtr_k Try.underlying3 rfl rfl) rfl ?_)
  by_cases hs15 : 1000 < b.length
  · skip
    rw [show decide (1000 < b.length) = true from decide_eq_true hs15]
    refine vl_v (q_move rfl) rfl ?_
    refine vl_skip rfl rfl ?_
    refine vl_skip rfl rfl ?_
    first | (refine vl_v (q_pickT rfl rfl) rfl ?_) | (refine vl_v (q_pickF rfl rfl) rfl ?_)
    refine vl_nil ?_
    refine (th_n ?_)
    refine VC_yes (rfl) ?_
    refine VC_seq ?_
    refine VC_region ?_
    refine vl_v (q_move rfl) rfl ?_
    refine vl_v (q_assign rfl) rfl ?_
    refine vl_nil ?_
    refine (th_n ?_)
    refine VC_ret ?_
    refine (th_r ?_)
    refine ⟨_, res1 rfl rfl, ?_⟩
    exact rfl
  · skip
    rw [show decide (1000 < b.length) = false from decide_eq_false hs15]
    refine vl_v (q_move rfl) rfl ?_
    refine vl_vg rfl (q_move rfl) rfl ?_
    first | (refine vl_vg rfl (q_lss_n (q := 0) Try.underlying3 rfl rfl) rfl ?_) | (refine vl_vg rfl (q_lss_k Try.underlying3 rfl rfl) rfl ?_)
    by_cases hs18 : n < 0
    · skip
      rw [show decide (n < 0) = true from decide_eq_true hs18]
      first | (refine vl_v (q_pickT rfl rfl) rfl ?_) | (refine vl_v (q_pickF rfl rfl) rfl ?_)
      refine vl_nil ?_
      refine (th_n ?_)
      refine VC_yes (rfl) ?_
      refine VC_seq ?_
      refine VC_region ?_
      refine vl_v (q_move rfl) rfl ?_
      refine vl_v (q_assign rfl) rfl ?_
      refine vl_nil ?_
      refine (th_n ?_)
      refine VC_ret ?_
      refine (th_r ?_)
      refine ⟨_, res1 rfl rfl, ?_⟩
      exact rfl
    · skip
      rw [show decide (n < 0) = false from decide_eq_false hs18]
      first | (refine vl_v (q_pickT rfl rfl) rfl ?_) | (refine vl_v (q_pickF rfl rfl) rfl ?_)
      refine vl_nil ?_
      refine (th_n ?_)
      refine VC_no (rfl) ?_
      refine VC_skip ?_
      refine (th_n ?_)
      refine VC_seq ?_
      refine VC_region ?_
      obtain ⟨m, rfl⟩ := Int.eq_ofNat_of_zero_le (show 0 ≤ n by omega)
      obtain ⟨q, hq⟩ : ∃ q, q = min (m % 20) (b.length / 64) := ⟨_, rfl⟩
      have hqe : min (64 * (m % 20)) (b.length / 64 * 64) = 64 * q := by omega
      have hql : 64 * q ≤ b.length := by omega
      refine vl_v (q_move rfl) rfl ?_
      refine vl_v (q_rem_n (q := 20) rfl rfl (by omega)) rfl ?_
      first | (refine vl_v (q_mul_n (p := 64) rfl rfl (by omega)) rfl ?_) | (refine vl_v (q_mul_i rfl rfl (by omega) (by omega)) rfl ?_)
      refine vl_v (q_move rfl) rfl ?_
      refine vl_v (q_lenS Try.underlying32 rfl) rfl ?_
      refine vl_v (q_quo_n (q := 64) rfl rfl (by omega) (by omega)) rfl ?_
      first | (refine vl_v (q_mul_n (q := 64) rfl rfl (by omega)) rfl ?_) | (refine vl_v (q_mul_i rfl rfl (by omega) (by omega)) rfl ?_)
      first | (refine vl_v (q_min rfl rfl) rfl ?_) | (refine vl_v (q_minI rfl rfl) rfl ?_)
      rw [hqe]
      refine vl_v (q_assign rfl) rfl ?_
      refine vl_nil ?_
      refine (th_n ?_)
      refine VC_seq ?_
      have htk : (b.take (64 * q)).length = 64 * q := by rw [List.length_take]; omega
      have hdr : (b.drop (64 * q)).length = b.length - 64 * q := by rw [List.length_drop]
      refine VC_drawV 9 [[], [0], [], [2], [], [4], [], [], [6, 7], [1, 3, 5, 8], [9, 0, 1, 2, 3, 4, 5, 6, 7, 8]] [[], [0], [], [2], [], [4], [], [], [6, 7], [0, 1, 2, 3, 4, 5, 6, 7, 8], [0, 1, 2, 3, 4, 5, 6, 7, 8, 9]] rfl (by kernel_rfl) ?_
      refine qv_v (q_fldA fo27_0 (by decide) rfl rfl) ?_
      first | (refine qv_v (q_loads 0 Try.underlying23 rfl rfl rfl sz23 (by first | omega | with_reducible assumption | (simp only [List.length_set, List.length_replicate, List.length_map, List.length_append, bys_length, u32s_length, u64s_length, i64s_length, List.length_take, List.length_drop, List.length_cons, List.length_nil, *] <;> first | done | omega) | rfl)) ?_) | (refine qv_v (q_loadsAt 0 Try.underlying23 rfl rfl rfl sz23 (by first | exact job0 h1 | exact job1 h1 h2) (by first | omega | with_reducible assumption | (simp only [List.length_set, List.length_replicate, List.length_map, List.length_append, bys_length, u32s_length, u64s_length, i64s_length, List.length_take, List.length_drop, List.length_cons, List.length_nil, *] <;> first | done | omega) | rfl)) ?_)
      refine qv_v (q_fldA fo27_1 (by decide) rfl rfl) ?_
      first | (refine qv_v (q_loads 0 Try.underlying24 rfl rfl rfl sz24 (by first | omega | with_reducible assumption | (simp only [List.length_set, List.length_replicate, List.length_map, List.length_append, bys_length, u32s_length, u64s_length, i64s_length, List.length_take, List.length_drop, List.length_cons, List.length_nil, *] <;> first | done | omega) | rfl)) ?_) | (refine qv_v (q_loadsAt 0 Try.underlying24 rfl rfl rfl sz24 (by first | exact job0 h1 | exact job1 h1 h2) (by first | omega | with_reducible assumption | (simp only [List.length_set, List.length_replicate, List.length_map, List.length_append, bys_length, u32s_length, u64s_length, i64s_length, List.length_take, List.length_drop, List.length_cons, List.length_nil, *] <;> first | done | omega) | rfl)) ?_)
      refine qv_v (q_fldA fo27_2 (by decide) rfl rfl) ?_
      refine qv_v (q_load 0 Try.underlying25 rfl rfl rfl (job2 h1 h2)) ?_
      refine qv_v (q_move rfl) ?_
      refine qv_v (q_move rfl) ?_
      refine qv_v (q_slcS0 Try.underlying32 sz5 rfl ⟨_, rfl⟩ rfl (.inl rfl) (by omega) (by omega)) ?_
      refine qv_end ?_
      refine VL.keep (Sub.cons (s := 0) rfl (Sub.cons (s := 1) rfl (Sub.cons (s := 2) rfl (Sub.cons (s := 3) rfl (Sub.cons (s := 6) rfl (Sub.cons (s := 7) rfl (Sub.cons (s := 19) rfl (Sub.cons (s := 8) rfl (Sub.cons (s := 30) rfl (Sub.cons (s := 32) rfl (Sub.cons (s := 34) rfl (Sub.cons (s := 37) rfl (Sub.nil _))))))))))))) ?_
      refine l_callR Try.func11 rfl rfl rfl (fun w1 H1 => by have h := turn_calls j.1 j.2.1 j.2.2 (b.take (64 * q)) A c h1 h2 w1 (by rw [← bys_take]; exact (H1.sl0 hA).take _) (by rw [htk]; omega) (by rw [htk]; omega); rw [htk] at h; exact h) rfl ?_
      intro A38 c38 hc38 hm38
      refine vl_v (q_assign rfl) rfl ?_
      refine vl_nil ?_
      refine (qn_n (th_n ?_))
      refine VC_seq ?_
      refine VC_drawV 13 [[], [0], [], [2], [], [4], [], [6], [7], [5, 8], [], [], [10, 11], [1, 3, 9, 12], [13, 0, 1, 2, 3, 4, 5, 6, 7, 8, 9, 10, 11, 12]] [[], [0], [], [2], [], [4], [], [6], [6, 7], [4, 5, 6, 7, 8], [], [], [10, 11], [0, 1, 2, 3, 4, 5, 6, 7, 8, 9, 10, 11, 12], [0, 1, 2, 3, 4, 5, 6, 7, 8, 9, 10, 11, 12, 13]] rfl (by kernel_rfl) ?_
      refine qv_v (q_fldA fo27_0 (by decide) rfl rfl) ?_
      first | (refine qv_v (q_loads 1 Try.underlying23 rfl rfl rfl sz23 (by first | omega | with_reducible assumption | (simp only [List.length_set, List.length_replicate, List.length_map, List.length_append, bys_length, u32s_length, u64s_length, i64s_length, List.length_take, List.length_drop, List.length_cons, List.length_nil, *] <;> first | done | omega) | rfl)) ?_) | (refine qv_v (q_loadsAt 1 Try.underlying23 rfl rfl rfl sz23 (by first | exact job0 h1 | exact job1 h1 h2) (by first | omega | with_reducible assumption | (simp only [List.length_set, List.length_replicate, List.length_map, List.length_append, bys_length, u32s_length, u64s_length, i64s_length, List.length_take, List.length_drop, List.length_cons, List.length_nil, *] <;> first | done | omega) | rfl)) ?_)
      refine qv_v (q_fldA fo27_1 (by decide) rfl rfl) ?_
      first | (refine qv_v (q_loads 1 Try.underlying24 rfl rfl rfl sz24 (by first | omega | with_reducible assumption | (simp only [List.length_set, List.length_replicate, List.length_map, List.length_append, bys_length, u32s_length, u64s_length, i64s_length, List.length_take, List.length_drop, List.length_cons, List.length_nil, *] <;> first | done | omega) | rfl)) ?_) | (refine qv_v (q_loadsAt 1 Try.underlying24 rfl rfl rfl sz24 (by first | exact job0 h1 | exact job1 h1 h2) (by first | omega | with_reducible assumption | (simp only [List.length_set, List.length_replicate, List.length_map, List.length_append, bys_length, u32s_length, u64s_length, i64s_length, List.length_take, List.length_drop, List.length_cons, List.length_nil, *] <;> first | done | omega) | rfl)) ?_)
      refine qv_v (q_fldA fo27_2 (by decide) rfl rfl) ?_
      refine qv_v (q_load 1 Try.underlying25 rfl rfl rfl (job2 h1 h2)) ?_
      refine qv_v (q_move rfl) ?_
      refine qv_v (q_as (v := vN q) (q_quo_n (q := 64) rfl rfl (by omega) (by omega)) (by rw [show 64 * q / 64 = q by omega])) ?_
      refine qv_v (q_conv_nu32 Try.underlying3 Try.underlying25 rfl) ?_
      refine qv_v (q_add_u32 rfl rfl) ?_
      refine qv_v (q_move rfl) ?_
      refine qv_v (q_move rfl) ?_
      refine qv_v (q_slcS Try.underlying32 sz5 rfl ⟨_, rfl⟩ rfl rfl (.inl rfl) (by omega) (by omega) (by omega)) ?_
      refine qv_end ?_
      refine VL.keep (Sub.cons (s := 0) rfl (Sub.cons (s := 1) rfl (Sub.cons (s := 2) rfl (Sub.cons (s := 3) rfl (Sub.cons (s := 6) rfl (Sub.cons (s := 7) rfl (Sub.cons (s := 19) rfl (Sub.cons (s := 8) rfl (Sub.cons (s := 9) rfl (Sub.cons (s := 40) rfl (Sub.cons (s := 42) rfl (Sub.cons (s := 48) rfl (Sub.cons (s := 51) rfl (Sub.nil _)))))))))))))) ?_
      refine l_callR Try.func11 rfl rfl rfl (fun w1 H1 => by have h := turn_calls j.1 j.2.1 (j.2.2 + UInt32.ofNat q) (b.drop (64 * q)) (adv A (64 * q) c 1) (c - 64 * q) h1 h2 w1 (by rw [← bys_drop, ← Nat.mul_one (64 * q)]; have h9 := (H1.sl0 hA).adv (l := 64 * q) (m := c) (sz := 1) (by rw [bys_length]; omega); simpa using h9) (by rw [hdr]; omega) (by rw [hdr]; omega); rw [hdr] at h; exact h) rfl ?_
      intro A52 c52 hc52 hm52
      refine vl_v (q_assign rfl) rfl ?_
      refine vl_nil ?_
      refine (qn_n (th_n ?_))
      refine VC_seq ?_
      refine VC_region ?_
      refine vl_v (q_fldA fo27_0 (by decide) rfl rfl) rfl ?_
      first | (refine vl_v (q_loads 2 Try.underlying23 rfl rfl rfl sz23 (by first | omega | with_reducible assumption | (simp only [List.length_set, List.length_replicate, List.length_map, List.length_append, bys_length, u32s_length, u64s_length, i64s_length, List.length_take, List.length_drop, List.length_cons, List.length_nil, *] <;> first | done | omega) | rfl)) rfl ?_) | (refine vl_v (q_loadsAt 2 Try.underlying23 rfl rfl rfl sz23 (by first | exact job0 h1 | exact job1 h1 h2) (by first | omega | with_reducible assumption | (simp only [List.length_set, List.length_replicate, List.length_map, List.length_append, bys_length, u32s_length, u64s_length, i64s_length, List.length_take, List.length_drop, List.length_cons, List.length_nil, *] <;> first | done | omega) | rfl)) rfl ?_)
      refine vl_v (q_fldA fo27_1 (by decide) rfl rfl) rfl ?_
      first | (refine vl_v (q_loads 2 Try.underlying24 rfl rfl rfl sz24 (by first | omega | with_reducible assumption | (simp only [List.length_set, List.length_replicate, List.length_map, List.length_append, bys_length, u32s_length, u64s_length, i64s_length, List.length_take, List.length_drop, List.length_cons, List.length_nil, *] <;> first | done | omega) | rfl)) rfl ?_) | (refine vl_v (q_loadsAt 2 Try.underlying24 rfl rfl rfl sz24 (by first | exact job0 h1 | exact job1 h1 h2) (by first | omega | with_reducible assumption | (simp only [List.length_set, List.length_replicate, List.length_map, List.length_append, bys_length, u32s_length, u64s_length, i64s_length, List.length_take, List.length_drop, List.length_cons, List.length_nil, *] <;> first | done | omega) | rfl)) rfl ?_)
      refine vl_v (q_fldA fo27_2 (by decide) rfl rfl) rfl ?_
      refine vl_v (q_load 2 Try.underlying25 rfl rfl rfl (job2 h1 h2)) rfl ?_
      refine vl_v (q_callV Try.func9 rfl rfl rfl (fun w1 H1 => block_calls j.1 j.2.1 j.2.2 h1 h2 w1)) rfl ?_
      refine l_allocA zr29 rfl ?_
      intro b11
      refine l_storeA 0 rfl rfl rfl sz29 (by first | omega | with_reducible assumption | (simp only [List.length_set, List.length_replicate, List.length_map, List.length_append, bys_length, u32s_length, u64s_length, i64s_length, List.length_take, List.length_drop, List.length_cons, List.length_nil, *] <;> first | done | omega) | rfl) (by first | exact bys_one _ | exact u32s_one _ | exact u64s_one _ | exact i64s_one _ | with_reducible assumption | exact one_all rfl | (refine app_one ?_ ?_ <;> first | exact bys_one _ | (simp; done))) (by first | omega | with_reducible assumption | (simp only [List.length_set, List.length_replicate, List.length_map, List.length_append, bys_length, u32s_length, u64s_length, i64s_length, List.length_take, List.length_drop, List.length_cons, List.length_nil, *] <;> first | done | omega) | rfl) ?_
      simp only [List.set_cons_zero, List.set_cons_succ]
      refine vl_nil ?_
      refine (th_n ?_)
      refine VC_seq ?_
      have ht1 := turnB_length j.1 j.2.1 j.2.2 (b.take (64 * q))
      have ht2 := turnB_length j.1 j.2.1 (j.2.2 + UInt32.ofNat q) (b.drop (64 * q))
      refine VC_drawM 30 [[], [0], [1], [2, 1], [1], [4, 1], [1], [6, 1], [1], [3, 5, 7, 8, 1], [9, 1], [1], [11, 1], [1], [13, 1], [12, 14, 1], [10, 15, 1], [1, 16], [17, 9], [18], [19, 18], [18], [21, 18], [18], [23, 18], [18], [20, 22, 24, 25, 18], [26, 18], [18], [28, 18], [27, 29, 18], [18, 30], [31, 26, 0, 1, 2, 3, 4, 5, 6, 7, 8, 9, 10, 11, 12, 13, 14, 15, 16, 17, 18, 19, 20, 21, 22, 23, 24, 25, 27, 28, 29, 30]] [[], [0], [0, 1], [0, 1, 2], [0, 1], [0, 1, 4], [0, 1], [0, 1, 6], [0, 1], [0, 1, 2, 3, 4, 5, 6, 7, 8], [0, 1, 2, 3, 4, 5, 6, 7, 8, 9], [0, 1], [0, 1, 11], [0, 1], [0, 1, 13], [0, 1, 11, 12, 13, 14], [0, 1, 2, 3, 4, 5, 6, 7, 8, 9, 10, 11, 12, 13, 14, 15], [0, 1, 2, 3, 4, 5, 6, 7, 8, 9, 10, 11, 12, 13, 14, 15, 16], [0, 1, 2, 3, 4, 5, 6, 7, 8, 9, 10, 11, 12, 13, 14, 15, 16, 17], [0, 1, 2, 3, 4, 5, 6, 7, 8, 9, 10, 11, 12, 13, 14, 15, 16, 17, 18], [0, 1, 2, 3, 4, 5, 6, 7, 8, 9, 10, 11, 12, 13, 14, 15, 16, 17, 18, 19], [0, 1, 2, 3, 4, 5, 6, 7, 8, 9, 10, 11, 12, 13, 14, 15, 16, 17, 18], [0, 1, 2, 3, 4, 5, 6, 7, 8, 9, 10, 11, 12, 13, 14, 15, 16, 17, 18, 21], [0, 1, 2, 3, 4, 5, 6, 7, 8, 9, 10, 11, 12, 13, 14, 15, 16, 17, 18], [0, 1, 2, 3, 4, 5, 6, 7, 8, 9, 10, 11, 12, 13, 14, 15, 16, 17, 18, 23], [0, 1, 2, 3, 4, 5, 6, 7, 8, 9, 10, 11, 12, 13, 14, 15, 16, 17, 18], [0, 1, 2, 3, 4, 5, 6, 7, 8, 9, 10, 11, 12, 13, 14, 15, 16, 17, 18, 19, 20, 21, 22, 23, 24, 25], [0, 1, 2, 3, 4, 5, 6, 7, 8, 9, 10, 11, 12, 13, 14, 15, 16, 17, 18, 19, 20, 21, 22, 23, 24, 25, 26], [0, 1, 2, 3, 4, 5, 6, 7, 8, 9, 10, 11, 12, 13, 14, 15, 16, 17, 18], [0, 1, 2, 3, 4, 5, 6, 7, 8, 9, 10, 11, 12, 13, 14, 15, 16, 17, 18, 28], [0, 1, 2, 3, 4, 5, 6, 7, 8, 9, 10, 11, 12, 13, 14, 15, 16, 17, 18, 19, 20, 21, 22, 23, 24, 25, 26, 27, 28, 29], [0, 1, 2, 3, 4, 5, 6, 7, 8, 9, 10, 11, 12, 13, 14, 15, 16, 17, 18, 19, 20, 21, 22, 23, 24, 25, 26, 27, 28, 29, 30], [0, 1, 2, 3, 4, 5, 6, 7, 8, 9, 10, 11, 12, 13, 14, 15, 16, 17, 18, 19, 20, 21, 22, 23, 24, 25, 26, 27, 28, 29, 30, 31]] rfl (by kernel_rfl) ?_
      refine qm_v (fun xs hx => q_move rfl) ?_
      refine qm_v (fun xs hx => q_move rfl) ?_
      refine qm_vg (fun xs => rfl) (fun xs hx => q_fldA fo27_0 (by decide) rfl rfl) ?_
      first | (refine qm_vg (fun xs => rfl) (fun xs hx => q_loads 3 Try.underlying23 rfl rfl rfl sz23 (by first | omega | with_reducible assumption | (simp only [List.length_set, List.length_replicate, List.length_map, List.length_append, bys_length, u32s_length, u64s_length, i64s_length, List.length_take, List.length_drop, List.length_cons, List.length_nil, *] <;> first | done | omega) | rfl)) ?_) | (refine qm_vg (fun xs => rfl) (fun xs hx => q_loadsAt 3 Try.underlying23 rfl rfl rfl sz23 (by first | exact job0 h1 | exact job1 h1 h2) (by first | omega | with_reducible assumption | (simp only [List.length_set, List.length_replicate, List.length_map, List.length_append, bys_length, u32s_length, u64s_length, i64s_length, List.length_take, List.length_drop, List.length_cons, List.length_nil, *] <;> first | done | omega) | rfl)) ?_)
      refine qm_vg (fun xs => rfl) (fun xs hx => q_fldA fo27_1 (by decide) rfl rfl) ?_
      first | (refine qm_vg (fun xs => rfl) (fun xs hx => q_loads 3 Try.underlying24 rfl rfl rfl sz24 (by first | omega | with_reducible assumption | (simp only [List.length_set, List.length_replicate, List.length_map, List.length_append, bys_length, u32s_length, u64s_length, i64s_length, List.length_take, List.length_drop, List.length_cons, List.length_nil, *] <;> first | done | omega) | rfl)) ?_) | (refine qm_vg (fun xs => rfl) (fun xs hx => q_loadsAt 3 Try.underlying24 rfl rfl rfl sz24 (by first | exact job0 h1 | exact job1 h1 h2) (by first | omega | with_reducible assumption | (simp only [List.length_set, List.length_replicate, List.length_map, List.length_append, bys_length, u32s_length, u64s_length, i64s_length, List.length_take, List.length_drop, List.length_cons, List.length_nil, *] <;> first | done | omega) | rfl)) ?_)
      refine qm_vg (fun xs => rfl) (fun xs hx => q_fldA fo27_2 (by decide) rfl rfl) ?_
      refine qm_vg (fun xs => rfl) (fun xs hx => q_load 3 Try.underlying25 rfl rfl rfl (job2 h1 h2)) ?_
      refine qm_vg (fun xs => rfl) (fun xs hx => q_move rfl) ?_
      refine qm_ag (fun xs => rfl) (fun xs hx => q_callR Try.func11 rfl rfl rfl (fun w1 H1 => turn_calls j.1 j.2.1 j.2.2 b A c h1 h2 w1 (H1.sl0 hA) hc (by omega))) ?_
      refine qm_vg (fun xs => rfl) (fun xs hx => q_strR 0 Try.underlying32 Try.underlying5 Try.underlying9 rfl rfl) ?_
      refine qm_vg (fun xs => rfl) (fun xs hx => q_move rfl) ?_
      refine qm_vg (fun xs => rfl) (fun xs hx => q_str Try.underlying32 Try.underlying5 Try.underlying9 rfl (Reads.row 2 rfl) (by first | omega | with_reducible assumption | (simp only [List.length_set, List.length_replicate, List.length_map, List.length_append, bys_length, u32s_length, u64s_length, i64s_length, List.length_take, List.length_drop, List.length_cons, List.length_nil, *] <;> first | done | omega) | rfl)) ?_
      refine qm_vg (fun xs => rfl) (fun xs hx => q_move rfl) ?_
      refine qm_vg (fun xs => rfl) (fun xs hx => q_str Try.underlying32 Try.underlying5 Try.underlying9 rfl (Reads.row 1 rfl) (by first | omega | with_reducible assumption | (simp only [List.length_set, List.length_replicate, List.length_map, List.length_append, bys_length, u32s_length, u64s_length, i64s_length, List.length_take, List.length_drop, List.length_cons, List.length_nil, *] <;> first | done | omega) | rfl)) ?_
      refine qm_vg (fun xs => rfl) (fun xs hx => q_addStr rfl rfl (by first | omega | with_reducible assumption | (simp only [List.length_set, List.length_replicate, List.length_map, List.length_append, bys_length, u32s_length, u64s_length, i64s_length, List.length_take, List.length_drop, List.length_cons, List.length_nil, *] <;> first | done | omega) | rfl) (by first | omega | with_reducible assumption | (simp only [List.length_set, List.length_replicate, List.length_map, List.length_append, bys_length, u32s_length, u64s_length, i64s_length, List.length_take, List.length_drop, List.length_cons, List.length_nil, *] <;> first | done | omega) | rfl)) ?_
      refine qm_vg (fun xs => rfl) (fun xs hx => q_true (q_eqStr Try.underlying9 rfl rfl) (decide_eq_true (turn_parts _ _ _ _ q hql))) ?_
      first | (refine qm_v (fun xs hx => q_pickT rfl rfl) ?_) | (refine qm_v (fun xs hx => q_pickF rfl rfl) ?_)
      refine qm_v (fun xs hx => q_move rfl) ?_
      refine qm_vg (fun xs => rfl) (fun xs hx => q_fldA fo27_0 (by decide) rfl rfl) ?_
      first | (refine qm_vg (fun xs => rfl) (fun xs hx => q_loads 4 Try.underlying23 rfl rfl rfl sz23 (by first | omega | with_reducible assumption | (simp only [List.length_set, List.length_replicate, List.length_map, List.length_append, bys_length, u32s_length, u64s_length, i64s_length, List.length_take, List.length_drop, List.length_cons, List.length_nil, *] <;> first | done | omega) | rfl)) ?_) | (refine qm_vg (fun xs => rfl) (fun xs hx => q_loadsAt 4 Try.underlying23 rfl rfl rfl sz23 (by first | exact job0 h1 | exact job1 h1 h2) (by first | omega | with_reducible assumption | (simp only [List.length_set, List.length_replicate, List.length_map, List.length_append, bys_length, u32s_length, u64s_length, i64s_length, List.length_take, List.length_drop, List.length_cons, List.length_nil, *] <;> first | done | omega) | rfl)) ?_)
      refine qm_vg (fun xs => rfl) (fun xs hx => q_fldA fo27_1 (by decide) rfl rfl) ?_
      first | (refine qm_vg (fun xs => rfl) (fun xs hx => q_loads 4 Try.underlying24 rfl rfl rfl sz24 (by first | omega | with_reducible assumption | (simp only [List.length_set, List.length_replicate, List.length_map, List.length_append, bys_length, u32s_length, u64s_length, i64s_length, List.length_take, List.length_drop, List.length_cons, List.length_nil, *] <;> first | done | omega) | rfl)) ?_) | (refine qm_vg (fun xs => rfl) (fun xs hx => q_loadsAt 4 Try.underlying24 rfl rfl rfl sz24 (by first | exact job0 h1 | exact job1 h1 h2) (by first | omega | with_reducible assumption | (simp only [List.length_set, List.length_replicate, List.length_map, List.length_append, bys_length, u32s_length, u64s_length, i64s_length, List.length_take, List.length_drop, List.length_cons, List.length_nil, *] <;> first | done | omega) | rfl)) ?_)
      refine qm_vg (fun xs => rfl) (fun xs hx => q_fldA fo27_2 (by decide) rfl rfl) ?_
      refine qm_vg (fun xs => rfl) (fun xs hx => q_load 4 Try.underlying25 rfl rfl rfl (job2 h1 h2)) ?_
      refine qm_ag (fun xs => rfl) (fun xs hx => q_makeR (m := 64) Try.underlying32 in5 rfl rfl rfl (by omega) (by unfold maxLen; omega)) ?_
      refine qm_ag (fun xs => rfl) (fun xs hx => q_callR Try.func11 rfl rfl rfl (fun w1 H1 => by obtain ⟨A0, c0, e0, hc0, _, hs0⟩ := row_sl H1 1 rfl; have e1 : xs 25 = .slice A0 64 c0 := e0; rw [e1]; have h := turn_calls j.1 j.2.1 j.2.2 (List.replicate 64 0) A0 c0 h1 h2 w1 (by simpa [bys] using hs0) (by simpa using hc0) (by simp); simpa using h)) ?_
      refine qm_vg (fun xs => rfl) (fun xs hx => q_strR 2 Try.underlying32 Try.underlying5 Try.underlying9 rfl rfl) ?_
      refine qm_vg (fun xs => rfl) (fun xs hx => q_slcA Try.underlying29 sz5 rfl rfl rfl rfl (.inl rfl) (by omega) (by omega) (by omega) (by omega) (by (try simp only [Nat.mul_one, Nat.zero_add, Nat.zero_mul, Nat.mul_zero, Nat.add_zero]) <;> rfl)) ?_
      refine qm_vg (fun xs => rfl) (fun xs hx => q_str Try.underlying32 Try.underlying5 Try.underlying9 rfl (Reads.blk 1 rfl) (by first | omega | with_reducible assumption | (simp only [List.length_set, List.length_replicate, List.length_map, List.length_append, bys_length, u32s_length, u64s_length, i64s_length, List.length_take, List.length_drop, List.length_cons, List.length_nil, *] <;> first | done | omega) | rfl)) ?_
      refine qm_end ?_
      intro xs hx
      obtain ⟨⟨A69, c69, e69, hc69, hm69⟩, ⟨A85, c85, e85, hc85, hm85⟩, ⟨A86, c86, e86, hc86, hm86⟩, _⟩ := hx
      simp only [e69]
      simp only [e85]
      simp only [e86]
      simp only [resT, nRow, nRowT, tupAt_0, List.append_assoc, List.nil_append, List.append_nil, List.cons_append, List.singleton_append, e69, e85, e86]
      refine VL.keep (Sub.cons (s := 0) rfl (Sub.cons (s := 1) rfl (Sub.cons (s := 2) rfl (Sub.cons (s := 3) rfl (Sub.cons (s := 6) rfl (Sub.cons (s := 7) rfl (Sub.cons (s := 19) rfl (Sub.cons (s := 8) rfl (Sub.cons (s := 9) rfl (Sub.cons (s := 10) rfl (Sub.cons (s := 11) rfl (Sub.cons (s := 78) rfl (Sub.cons (s := 87) rfl (Sub.cons (s := 89) rfl (Sub.nil _))))))))))))))) ?_
      refine vl_vg rfl (q_true (q_eqStr Try.underlying9 rfl rfl) (decide_eq_true (turn_zero _ _ _))) rfl ?_
      first | (refine vl_v (q_pickT rfl rfl) rfl ?_) | (refine vl_v (q_pickF rfl rfl) rfl ?_)
      refine vl_v (q_assign rfl) rfl ?_
      refine vl_nil ?_
      refine (qn_n (th_n ?_))
      refine VC_ret ?_
      refine ⟨_, res1 rfl rfl, ?_⟩
      exact rfl

namespace chachaParts
open Go.ChangeShapes Go.WideShapes Go.ChangeAt Go.RowKit
theorem own : ownKnob Try.prog.godebug = none := by kernel_rfl
theorem laidOut : laidOutB Try.prog = true := by kernel_rfl
set_option maxRecDepth 100000 in
theorem lifted (os : Os) (started : os.Started) (H : Type) (enc : TypeId × Value → H) :
    ReturnsInHanded {} Try.checked os 6 .any (Rows.chachaPartsSpec.pre6 enc Try.prog Try.f6 Rows.chachaPartsRow.domain false) (Rows.chachaPartsSpec.post enc Try.prog Try.f6 false true false false) := by
  refine returnsInHanded_of_change (C := Try.checked) own started (by kernel_rfl) Try.func6
    (ChangeSpec.witness6 (enc := enc) (C := Try.checked) false ⟨#[], #[(.agg (List.replicate 44 (Value.int .u8 0) ++ [Value.int .u32 0]).toArray), .slice none 0 0, .int .i64 0], []⟩ 8 (by kernel_rfl) (by kernel_rfl) (by kernel_rfl) (by kernel_rfl)) ?_
  intro W base args ds gs before hval0 hW hcnd _
  have hval : ∀ (j : Nat) t v, Try.f6.params[j]? = some t → args[j]? = some v → Value.okWide Try.prog W .any base t v := hval0
  have hW' := hW
  obtain ⟨p, q, hA0, hV, rfl, hfz, hnd⟩ := hW
  have hA : DataW.TrodAll enc Try.prog W 0 (fun _ => true) true Try.f6.params.toList args.toList ds p := hA0
  rw [Try.params6] at hA hval
  obtain ⟨v0, vs0, d0, ds0, p0, q0, hargs, rfl, rfl, h0, r0⟩ := trodAll_cons hA
  obtain ⟨v1, vs1, d1, ds1, p1, q1, rfl, rfl, rfl, h1, r1⟩ := trodAll_cons r0
  obtain ⟨v2, vs2, d2, ds2, p2, q2, rfl, rfl, rfl, h2, r2⟩ := trodAll_cons r1
  obtain ⟨rfl, rfl, rfl⟩ := trodAll_nil r2
  obtain rfl : args = #[v0, v1, v2] := by cases args; simp_all
  obtain ⟨rfl, rfl⟩ := trodVars_none hV
  have k0 := h0
  have lt0 : ∀ x ∈ p0, x.block < W.heap.size := by obtain ⟨m, hm⟩ := k0; exact DataW.trod_lt m _ _ _ hm
  have k1 := h1
  have lt1 : ∀ x ∈ p1, x.block < W.heap.size := by obtain ⟨m, hm⟩ := k1; exact DataW.trod_lt m _ _ _ hm
  have k2 := h2
  have lt2 : ∀ x ∈ p2, x.block < W.heap.size := by obtain ⟨m, hm⟩ := k2; exact DataW.trod_lt m _ _ _ hm
  obtain ⟨cs0, e0, f0⟩ := open_flat (ks := jobK) 6 (by kernel_rfl) (by kernel_rfl) (hval 0 27 v0 rfl rfl) h0
  subst e0
  obtain ⟨l0, g0⟩ := open_job f0
  obtain ⟨l1, g1⟩ := open_bytes Try.underlying32 Try.underlying5 (by kernel_rfl) (hval 1 32 v1 rfl rfl) h1
  obtain ⟨n2, rfl, _, _, g2⟩ := open_int Try.underlying3 (hval 2 3 v2 rfl rfl) h2
  clear hA0 hval0
  refine (chachaParts.walk W _ l0 g0 v1 l1 g1 n2 g2).mono fun e W' ⟨he, hK⟩ => ?_
  subst he
  have bel := hK.below
  exact ⟨_, rfl, _, _, _, [], _, [], hW', trodAll_mk1 (shut_bool Try.underlying4 _), (trodAll_cons_mk (Below.trod laidOut (by kernel_rfl) (of_decide_eq_true (by kernel_rfl)) k0 bel lt0) (trodAll_cons_mk (Below.trod laidOut (by kernel_rfl) (of_decide_eq_true (by kernel_rfl)) k1 bel lt1) (trodAll_cons_mk (Below.trod laidOut (by kernel_rfl) (of_decide_eq_true (by kernel_rfl)) k2 bel lt2) trodAll_mk0))), rfl, bel.frame _, fun h => by cases h⟩
theorem over : Rows.chachaPartsRow.holds Try.pinned (OpenSpec.ofChange Rows.chachaPartsSpec) :=
  OpenClaim.holds_of_wide 6 Try.f6 rfl rfl rfl rfl rfl rfl rfl ⟨rfl, rfl, rfl, rfl, rfl⟩ rfl rfl rfl rfl rfl (by kernel_rfl) Try.func6 (by kernel_rfl)
    (of_decide_eq_true (by kernel_rfl)) (by unfold Func.isWrapper; first | (rw [if_pos (by decide +kernel)]; kernel_rfl) | (rw [if_neg (by decide +kernel)]; exact ⟨rfl, rfl⟩))
    (fun os started H enc _ => lifted os started H enc)
theorem proved : Rows.ChachaPartsSaid := over
end chachaParts
/-- The row. -/
theorem chachaParts_holds : Rows.ChachaPartsSaid := chachaParts.proved
#print axioms chachaParts_holds
end Go.Proofs.Ytjlhehdkopponaa
