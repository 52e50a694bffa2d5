/- What the reference's functions of chapter 4 do: bytes are turned. No condition. -/
import Derived.Test.YtjlhehdkopponaaD04b
namespace Go.Proofs.Ytjlhehdkopponaa
open Go.RowKit Go.PBYtjlhehdkopponaa
set_option linter.unusedVariables false
set_option linter.unusedSimpArgs false
set_option maxRecDepth 10000

set_option maxHeartbeats 2000000 in
theorem rturn_calls (k nn : List UInt8) (nu : UInt32) (b : List UInt8) (A : Option Addr) (c : Nat) (hk : k.length = 32) (hn : nn.length = 12) (w : World) (hA : SlAt w A (bys b)) (hc : b.length ≤ c) (hb : b.length ≤ 100000) :
    Calls Try.prog 12 #[.agg (bys k).toArray, .agg (bys nn).toArray, vU32 nu, .slice A b.length c] w fun e w' => ∃ v, e = .returned v ∧ St [] w [.row 5 1 v b.length (bys (turnB k nn nu b))] w' := by
  refine enter (n := 42) (R := fun e L => ∃ v M, e = .returned v ∧ L = .row 5 1 v b.length (bys (turnB k nn nu b)) :: M) [.agg (bys k).toArray, .agg (bys nn).toArray, vU32 nu, .slice A b.length c] Try.func12 rfl rfl rfl (St.refl w) ?_ endRow
  refine VC_seq ?_
  refine VC_region ?_
  refine l_boxA rfl rfl ?_
  intro b4
  refine l_boxA rfl rfl ?_
  intro b5
  refine vl_v (q_assign rfl) rfl ?_
  refine vl_nil ?_
  refine (th_n ?_)
  refine VC_seq ?_
  refine VC_region ?_
  refine vl_v (q_assign rfl) rfl ?_
  refine vl_nil ?_
  refine (th_n ?_)
  refine VC_seq ?_
  refine VC_region ?_
  refine l_allocA zr29 rfl ?_
  intro b10
  refine vl_nil ?_
  refine (th_n ?_)
  refine VC_seq ?_
  refine VC_seq ?_
  refine VC_nilRow 5 1 ?_
  refine VC_region ?_
  refine vl_v (q_assign rfl) rfl ?_
  refine vl_nil ?_
  refine (th_n ?_)
  refine VC_block ?_
  refine VC_loop (ι := Nat × List UInt8 × Option Addr × Nat) (fun q => q.1 ≤ b.length ∧ q.2.1.length = 64 ∧ (q.1 % 64 ≠ 0 → q.2.1 = ks k nn nu (q.1 / 64))) (fun q => [(2, vU32 nu), (3, .slice A b.length c), (4, vP b4 0), (5, vP b5 0), (9, .slice q.2.2.1 q.1 q.2.2.2), (10, vP b10 0), (11, vN q.1)]) (fun q => [.row 5 1 (.slice q.2.2.1 q.1 q.2.2.2) q.1 (bys (tb (ks k nn nu) b q.1)), .blk b10 29 (bys q.2.1), .blk b5 24 (bys nn), .blk b4 23 (bys k)]) (fun q => b.length - q.1) (0, List.replicate 64 0, none, 0) (⟨Nat.zero_le _, rfl, fun h => absurd rfl h⟩) (Sub.cons (s := 2) rfl (Sub.cons (s := 3) rfl (Sub.cons (s := 4) rfl (Sub.cons (s := 5) rfl (Sub.cons (s := 9) rfl (Sub.cons (s := 10) rfl (Sub.cons (s := 11) rfl (Sub.nil _)))))))) (fun w H => H) ?_
  rintro ⟨i, X, B, d⟩ hp
  obtain ⟨hi, hX, hXe⟩ := hp
  simp only at hi hX hXe
  have hbl := ks_length k nn nu (i / 64)
  refine VC_seq ?_
  refine VC_seq ?_
  refine VC_region ?_
  refine vl_v (q_move rfl) rfl ?_
  refine vl_v (q_move rfl) rfl ?_
  refine vl_v (q_lenS Try.underlying32 rfl) rfl ?_
  first | (refine vl_v (q_lss_n Try.underlying3 rfl rfl) rfl ?_) | (refine vl_v (q_lss_k Try.underlying3 rfl rfl) rfl ?_)
  refine vl_nil ?_
  refine (th_n ?_)
  refine VC_cond rfl (fun ht15 => ?_) (fun ht15 => ?_)
  · skip
    have ht15 := of_decide_eq_true ht15
    simp only at ht15
    refine VC_skip ?_
    refine (th_n ?_)
    refine VC_seq ?_
    refine VC_block ?_
    refine VC_seq ?_
    refine VC_seq ?_
    refine VC_region ?_
    refine vl_v (q_move rfl) rfl ?_
    refine vl_v (q_rem_n (q := 64) rfl rfl (by omega)) rfl ?_
    first | (refine vl_v (q_eql_n (q := 0) Try.underlying3 rfl rfl) rfl ?_) | (refine vl_v (q_eql_k Try.underlying3 rfl rfl) rfl ?_)
    refine vl_nil ?_
    refine (th_n ?_)
    refine VC_cond rfl (fun ht20 => ?_) (fun ht20 => ?_)
    · skip
      have ht20 := of_decide_eq_true ht20
      refine VC_region ?_
      have hbk := block_length k nn (nu + UInt32.ofNat (i / 64))
      first | (refine vl_v (q_loads 3 Try.underlying23 rfl rfl rfl sz23 (by first | omega | with_reducible assumption | (simp only [List.length_set, List.length_replicate, List.length_map, List.length_append, bys_length, u32s_length, u64s_length, i64s_length, List.length_take, List.length_drop, List.length_cons, List.length_nil, *] <;> first | done | omega) | rfl)) rfl ?_) | (refine vl_v (q_loadsAt 3 Try.underlying23 rfl rfl rfl sz23 (by rfl) (by first | omega | with_reducible assumption | (simp only [List.length_set, List.length_replicate, List.length_map, List.length_append, bys_length, u32s_length, u64s_length, i64s_length, List.length_take, List.length_drop, List.length_cons, List.length_nil, *] <;> first | done | omega) | rfl)) rfl ?_)
      first | (refine vl_v (q_loads 2 Try.underlying24 rfl rfl rfl sz24 (by first | omega | with_reducible assumption | (simp only [List.length_set, List.length_replicate, List.length_map, List.length_append, bys_length, u32s_length, u64s_length, i64s_length, List.length_take, List.length_drop, List.length_cons, List.length_nil, *] <;> first | done | omega) | rfl)) rfl ?_) | (refine vl_v (q_loadsAt 2 Try.underlying24 rfl rfl rfl sz24 (by rfl) (by first | omega | with_reducible assumption | (simp only [List.length_set, List.length_replicate, List.length_map, List.length_append, bys_length, u32s_length, u64s_length, i64s_length, List.length_take, List.length_drop, List.length_cons, List.length_nil, *] <;> first | done | omega) | rfl)) rfl ?_)
      refine vl_v (q_move rfl) rfl ?_
      refine vl_v (q_move rfl) rfl ?_
      refine vl_v (q_quo_n (q := 64) rfl rfl (by omega) (by omega)) rfl ?_
      refine vl_v (q_conv_nu32 Try.underlying3 Try.underlying25 rfl) rfl ?_
      refine vl_v (q_add_u32 rfl rfl) rfl ?_
      refine vl_v (q_callV Try.func10 rfl rfl rfl (fun w1 H1 => rblock_calls k nn (nu + UInt32.ofNat (i / 64)) hk hn w1)) rfl ?_
      refine l_storeA 1 rfl rfl rfl sz29 (by first | omega | with_reducible assumption | (simp only [List.length_set, List.length_replicate, List.length_map, List.length_append, bys_length, u32s_length, u64s_length, i64s_length, List.length_take, List.length_drop, List.length_cons, List.length_nil, *] <;> first | done | omega) | rfl) (by first | exact bys_one _ | exact u32s_one _ | exact u64s_one _ | exact i64s_one _ | with_reducible assumption | exact one_all rfl | (refine app_one ?_ ?_ <;> first | exact bys_one _ | (simp; done))) (by first | omega | with_reducible assumption | (simp only [List.length_set, List.length_replicate, List.length_map, List.length_append, bys_length, u32s_length, u64s_length, i64s_length, List.length_take, List.length_drop, List.length_cons, List.length_nil, *] <;> first | done | omega) | rfl) ?_
      simp only [List.set_cons_zero, List.set_cons_succ]
      refine vl_nil ?_
      refine (th_n ?_)
      refine VC_drawM 11 [[], [], [], [1, 2], [3], [], [5], [6], [7], [4, 8], [9], [0, 10], [11, 0, 1, 2, 3, 4, 5, 6, 7, 8, 9, 10]] [[], [], [], [1, 2], [1, 2, 3], [], [5], [5, 6], [5, 6, 7], [1, 2, 3, 4, 5, 6, 7, 8], [1, 2, 3, 4, 5, 6, 7, 8, 9], [0, 1, 2, 3, 4, 5, 6, 7, 8, 9, 10], [0, 1, 2, 3, 4, 5, 6, 7, 8, 9, 10, 11]] rfl (by kernel_rfl) ?_
      refine qm_v (fun xs hx => q_move rfl) ?_
      refine qm_v (fun xs hx => q_move rfl) ?_
      refine qm_v (fun xs hx => q_move rfl) ?_
      refine qm_v (fun xs hx => q_idxRd Try.underlying32 sz5 rfl rfl (by first | omega | with_reducible assumption | (simp only [List.length_set, List.length_replicate, List.length_map, List.length_append, bys_length, u32s_length, u64s_length, i64s_length, List.length_take, List.length_drop, List.length_cons, List.length_nil, *] <;> first | done | omega) | rfl) (Reads.old hA) (by first | omega | with_reducible assumption | (simp only [List.length_set, List.length_replicate, List.length_map, List.length_append, bys_length, u32s_length, u64s_length, i64s_length, List.length_take, List.length_drop, List.length_cons, List.length_nil, *] <;> first | done | omega) | rfl)) ?_
      refine qm_v (fun xs hx => q_loadRd Try.underlying5 rfl rfl (Reads.old hA) (bys_at (by first | omega | with_reducible assumption | (simp only [List.length_set, List.length_replicate, List.length_map, List.length_append, bys_length, u32s_length, u64s_length, i64s_length, List.length_take, List.length_drop, List.length_cons, List.length_nil, *] <;> first | done | omega) | rfl))) ?_
      refine qm_v (fun xs hx => q_move rfl) ?_
      refine qm_v (fun xs hx => q_rem_n (q := 64) rfl rfl (by omega)) ?_
      first | (refine qm_v (fun xs hx => q_idxA Try.underlying29 sz5 rfl rfl (by omega) (r := _) (by rw [Nat.mul_one, Nat.zero_add])) ?_) | (refine qm_v (fun xs hx => q_idxA Try.underlying29 sz5 rfl rfl (by omega) rfl) ?_)
      first | (refine qm_v (fun xs hx => q_load 1 Try.underlying5 rfl rfl rfl (bys_at (by first | omega | with_reducible assumption | (simp only [List.length_set, List.length_replicate, List.length_map, List.length_append, bys_length, u32s_length, u64s_length, i64s_length, List.length_take, List.length_drop, List.length_cons, List.length_nil, *] <;> first | done | omega) | rfl))) ?_) | (refine qm_v (fun xs hx => q_load 1 Try.underlying5 rfl rfl rfl rfl) ?_)
      refine qm_v (fun xs hx => q_xor_u8 rfl rfl) ?_
      refine qm_a (fun xs hx => q_litA (cs := bys [_]) Try.underlying32 in5 (by decide) rfl rfl rfl rfl (by first | exact bys_one _ | exact u32s_one _ | exact u64s_one _ | exact i64s_one _ | with_reducible assumption | exact one_all rfl | (refine app_one ?_ ?_ <;> first | exact bys_one _ | (simp; done))) rfl) ?_
      refine qm_end ?_
      intro xs hx
      obtain ⟨⟨b39, e39⟩, _⟩ := hx
      simp only [e39]
      simp only [resT, nRow, nRowT, tupAt_0, List.append_assoc, List.nil_append, List.append_nil, List.cons_append, List.singleton_append, e39]
      refine VL.keep (Sub.cons (s := 2) rfl (Sub.cons (s := 3) rfl (Sub.cons (s := 4) rfl (Sub.cons (s := 5) rfl (Sub.cons (s := 9) rfl (Sub.cons (s := 10) rfl (Sub.cons (s := 11) rfl (Sub.cons (s := 15) rfl (Sub.cons (s := 20) rfl (Sub.cons (s := 29) rfl (Sub.cons (s := 39) rfl (Sub.nil _)))))))))))) ?_
      refine l_append 1 rfl rfl rfl Try.underlying32 Try.underlying32 in5 rfl (by decide) (Reads.row 0 rfl) (by first | omega | with_reducible assumption | (simp only [List.length_set, List.length_replicate, List.length_map, List.length_append, bys_length, u32s_length, u64s_length, i64s_length, List.length_take, List.length_drop, List.length_cons, List.length_nil, *] <;> first | done | omega) | rfl) (by first | exact bys_one _ | exact u32s_one _ | exact u64s_one _ | exact i64s_one _ | with_reducible assumption | exact one_all rfl | (refine app_one ?_ ?_ <;> first | exact bys_one _ | (simp; done))) (by first | omega | with_reducible assumption | (simp only [List.length_set, List.length_replicate, List.length_map, List.length_append, bys_length, u32s_length, u64s_length, i64s_length, List.length_take, List.length_drop, List.length_cons, List.length_nil, *] <;> first | done | omega) | rfl) (by first | omega | with_reducible assumption | (simp only [List.length_set, List.length_replicate, List.length_map, List.length_append, bys_length, u32s_length, u64s_length, i64s_length, List.length_take, List.length_drop, List.length_cons, List.length_nil, *] <;> first | done | omega) | rfl) rfl ?_
      intro A40 c40 hc40
      simp only [List.set_cons_zero, List.set_cons_succ, ← bys_append, ← u32s_append, ← u64s_append, ← i64s_append, List.nil_append, Nat.zero_add]
      refine vl_v (q_assign rfl) rfl ?_
      refine vl_nil ?_
      refine (qn_n (bl_n (th_n ?_)))
      refine VC_region ?_
      refine vl_v (q_move rfl) rfl ?_
      first | (refine vl_v (q_add_n (q := 1) rfl rfl (by omega)) rfl ?_) | (refine vl_v (q_add_i rfl rfl (by omega) (by omega)) rfl ?_)
      refine vl_v (q_assign rfl) rfl ?_
      refine vl_nil ?_
      refine (th_n ?_)
      refine ⟨(i + 1, ks k nn nu (i / 64), A40, c40), ⟨by simp only; omega, hbl, fun h => by simp only at h ⊢; rw [show (i + 1) / 64 = i / 64 by omega]⟩, by simp only; omega, (Sub.cons (s := 2) rfl (Sub.cons (s := 3) rfl (Sub.cons (s := 4) rfl (Sub.cons (s := 5) rfl (Sub.cons (s := 9) rfl (Sub.cons (s := 10) rfl (Sub.cons (s := 11) rfl (Sub.nil _)))))))), fun w' H => by show St [] w [.row 5 1 (.slice A40 (i + 1) c40) (i + 1) (bys (tb (ks k nn nu) b (i + 1))), .blk b10 29 (bys (ks k nn nu (i / 64))), .blk b5 24 (bys nn), .blk b4 23 (bys k)] w'; rw [← tb_step (ks k nn nu) b i]; exact H.pick (ks := [1, 2, 3, 4]) (by decide) rfl⟩
    · skip
      have ht20 := of_decide_eq_false ht20
      simp only at ht20
      obtain rfl := hXe ht20
      refine VC_skip ?_
      refine (th_n ?_)
      refine VC_drawM 11 [[], [], [], [1, 2], [3], [], [5], [6], [7], [4, 8], [9], [0, 10], [11, 0, 1, 2, 3, 4, 5, 6, 7, 8, 9, 10]] [[], [], [], [1, 2], [1, 2, 3], [], [5], [5, 6], [5, 6, 7], [1, 2, 3, 4, 5, 6, 7, 8], [1, 2, 3, 4, 5, 6, 7, 8, 9], [0, 1, 2, 3, 4, 5, 6, 7, 8, 9, 10], [0, 1, 2, 3, 4, 5, 6, 7, 8, 9, 10, 11]] rfl (by kernel_rfl) ?_
      refine qm_v (fun xs hx => q_move rfl) ?_
      refine qm_v (fun xs hx => q_move rfl) ?_
      refine qm_v (fun xs hx => q_move rfl) ?_
      refine qm_v (fun xs hx => q_idxRd Try.underlying32 sz5 rfl rfl (by first | omega | with_reducible assumption | (simp only [List.length_set, List.length_replicate, List.length_map, List.length_append, bys_length, u32s_length, u64s_length, i64s_length, List.length_take, List.length_drop, List.length_cons, List.length_nil, *] <;> first | done | omega) | rfl) (Reads.old hA) (by first | omega | with_reducible assumption | (simp only [List.length_set, List.length_replicate, List.length_map, List.length_append, bys_length, u32s_length, u64s_length, i64s_length, List.length_take, List.length_drop, List.length_cons, List.length_nil, *] <;> first | done | omega) | rfl)) ?_
      refine qm_v (fun xs hx => q_loadRd Try.underlying5 rfl rfl (Reads.old hA) (bys_at (by first | omega | with_reducible assumption | (simp only [List.length_set, List.length_replicate, List.length_map, List.length_append, bys_length, u32s_length, u64s_length, i64s_length, List.length_take, List.length_drop, List.length_cons, List.length_nil, *] <;> first | done | omega) | rfl))) ?_
      refine qm_v (fun xs hx => q_move rfl) ?_
      refine qm_v (fun xs hx => q_rem_n (q := 64) rfl rfl (by omega)) ?_
      first | (refine qm_v (fun xs hx => q_idxA Try.underlying29 sz5 rfl rfl (by omega) (r := _) (by rw [Nat.mul_one, Nat.zero_add])) ?_) | (refine qm_v (fun xs hx => q_idxA Try.underlying29 sz5 rfl rfl (by omega) rfl) ?_)
      first | (refine qm_v (fun xs hx => q_load 1 Try.underlying5 rfl rfl rfl (bys_at (by first | omega | with_reducible assumption | (simp only [List.length_set, List.length_replicate, List.length_map, List.length_append, bys_length, u32s_length, u64s_length, i64s_length, List.length_take, List.length_drop, List.length_cons, List.length_nil, *] <;> first | done | omega) | rfl))) ?_) | (refine qm_v (fun xs hx => q_load 1 Try.underlying5 rfl rfl rfl rfl) ?_)
      refine qm_v (fun xs hx => q_xor_u8 rfl rfl) ?_
      refine qm_a (fun xs hx => q_litA (cs := bys [_]) Try.underlying32 in5 (by decide) rfl rfl rfl rfl (by first | exact bys_one _ | exact u32s_one _ | exact u64s_one _ | exact i64s_one _ | with_reducible assumption | exact one_all rfl | (refine app_one ?_ ?_ <;> first | exact bys_one _ | (simp; done))) rfl) ?_
      refine qm_end ?_
      intro xs hx
      obtain ⟨⟨b39, e39⟩, _⟩ := hx
      simp only [e39]
      simp only [resT, nRow, nRowT, tupAt_0, List.append_assoc, List.nil_append, List.append_nil, List.cons_append, List.singleton_append, e39]
      refine VL.keep (Sub.cons (s := 2) rfl (Sub.cons (s := 3) rfl (Sub.cons (s := 4) rfl (Sub.cons (s := 5) rfl (Sub.cons (s := 9) rfl (Sub.cons (s := 10) rfl (Sub.cons (s := 11) rfl (Sub.cons (s := 15) rfl (Sub.cons (s := 20) rfl (Sub.cons (s := 29) rfl (Sub.cons (s := 39) rfl (Sub.nil _)))))))))))) ?_
      refine l_append 1 rfl rfl rfl Try.underlying32 Try.underlying32 in5 rfl (by decide) (Reads.row 0 rfl) (by first | omega | with_reducible assumption | (simp only [List.length_set, List.length_replicate, List.length_map, List.length_append, bys_length, u32s_length, u64s_length, i64s_length, List.length_take, List.length_drop, List.length_cons, List.length_nil, *] <;> first | done | omega) | rfl) (by first | exact bys_one _ | exact u32s_one _ | exact u64s_one _ | exact i64s_one _ | with_reducible assumption | exact one_all rfl | (refine app_one ?_ ?_ <;> first | exact bys_one _ | (simp; done))) (by first | omega | with_reducible assumption | (simp only [List.length_set, List.length_replicate, List.length_map, List.length_append, bys_length, u32s_length, u64s_length, i64s_length, List.length_take, List.length_drop, List.length_cons, List.length_nil, *] <;> first | done | omega) | rfl) (by first | omega | with_reducible assumption | (simp only [List.length_set, List.length_replicate, List.length_map, List.length_append, bys_length, u32s_length, u64s_length, i64s_length, List.length_take, List.length_drop, List.length_cons, List.length_nil, *] <;> first | done | omega) | rfl) rfl ?_
      intro A40 c40 hc40
      simp only [List.set_cons_zero, List.set_cons_succ, ← bys_append, ← u32s_append, ← u64s_append, ← i64s_append, List.nil_append, Nat.zero_add]
      refine vl_v (q_assign rfl) rfl ?_
      refine vl_nil ?_
      refine (qn_n (bl_n (th_n ?_)))
      refine VC_region ?_
      refine vl_v (q_move rfl) rfl ?_
      first | (refine vl_v (q_add_n (q := 1) rfl rfl (by omega)) rfl ?_) | (refine vl_v (q_add_i rfl rfl (by omega) (by omega)) rfl ?_)
      refine vl_v (q_assign rfl) rfl ?_
      refine vl_nil ?_
      refine (th_n ?_)
      refine ⟨(i + 1, ks k nn nu (i / 64), A40, c40), ⟨by simp only; omega, hbl, fun h => by simp only at h ⊢; rw [show (i + 1) / 64 = i / 64 by omega]⟩, by simp only; omega, (Sub.cons (s := 2) rfl (Sub.cons (s := 3) rfl (Sub.cons (s := 4) rfl (Sub.cons (s := 5) rfl (Sub.cons (s := 9) rfl (Sub.cons (s := 10) rfl (Sub.cons (s := 11) rfl (Sub.nil _)))))))), fun w' H => by show St [] w [.row 5 1 (.slice A40 (i + 1) c40) (i + 1) (bys (tb (ks k nn nu) b (i + 1))), .blk b10 29 (bys (ks k nn nu (i / 64))), .blk b5 24 (bys nn), .blk b4 23 (bys k)] w'; rw [← tb_step (ks k nn nu) b i]; exact H.pick (ks := [1, 2, 3, 4]) (by decide) rfl⟩
  · skip
    have ht15 := of_decide_eq_false ht15
    simp only at ht15
    obtain rfl : i = b.length := by omega
    refine VC_exit ?_
    refine (th_x (th_x (bl_xs (th_n ?_))))
    refine VC_seq ?_
    refine VC_region ?_
    refine vl_v (q_move rfl) rfl ?_
    refine vl_v (q_assign rfl) rfl ?_
    refine vl_nil ?_
    refine (th_n ?_)
    refine VC_ret ?_
    refine ⟨_, res1 rfl rfl, ?_⟩
    exact ⟨_, [.blk b10 29 (bys X), .blk b5 24 (bys nn), .blk b4 23 (bys k)], rfl, rfl⟩
end Go.Proofs.Ytjlhehdkopponaa
