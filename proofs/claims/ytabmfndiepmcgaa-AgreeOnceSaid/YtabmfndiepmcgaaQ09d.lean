/- Words and laws that the proofs of this seat share, part 4 of 8. No condition. -/
import Derived.Test.YtabmfndiepmcgaaQ09c
section
namespace Go.Proofs.Ytabmfndiepmcgaa
open Go.RowKit Go.PBYtabmfndiepmcgaa
set_option linter.unusedVariables false
set_option linter.unusedSimpArgs false
set_option maxRecDepth 10000
set_option maxHeartbeats 4000000 in
theorem rinto_true (h : List UInt32) (blk : List UInt8) (n : Nat) (Ah Ab : Option Addr) (ch cb : Nat) (hh : h.length = 8) (hb : blk.length = 64) (hch : 8 ≤ ch) (hcb : 64 ≤ cb) (hn : n < 9223372036854775808) (w : World) (hA : SlAt w Ah (u32s h)) (hB : SlAt w Ab (bys blk)) :
    Calls Try.prog 43 #[.slice Ah 8 ch, .slice Ab 64 cb, vN n, .bool true] w fun e w' => ∃ v, e = .returned v ∧ St [] w [.row 73 1 v 8 (u32s (into h blk (UInt64.ofNat n) true))] w' := by
  have htt : (UInt64.ofNat n).toNat = n := by rw [UInt64.toNat_ofNat']; omega
  have hm16 := rwW_length blk 16
  have hv0 := vBeg_length h (UInt64.ofNat n) true
  rw [hh] at hv0
  obtain ⟨v0, hve⟩ : ∃ v, v = vBeg h (UInt64.ofNat n) true := ⟨_, rfl⟩
  rw [← hve] at hv0
  obtain ⟨m16, hme⟩ : ∃ v, v = rwW blk 16 := ⟨_, rfl⟩
  rw [← hme] at hm16
  refine enter (n := 209) (R := fun e L => ∃ v M, e = .returned v ∧ L = .row 73 1 v 8 (u32s (into h blk (UInt64.ofNat n) true)) :: M) [.slice Ah 8 ch, .slice Ab 64 cb, vN n, .bool true] Try.func43 rfl rfl rfl (St.refl w) ?_ endRow
  refine VC_seq ?_
  refine VC_region ?_
  refine vl_v (q_assign rfl) rfl ?_
  refine vl_nil ?_
  refine (th_n ?_)
  refine VC_seq ?_
  refine VC_region ?_
  refine l_litA (cs := u32s []) Try.underlying71 in73 (by decide) rfl rfl rfl rfl (by exact one_all rfl) rfl rfl ?_
  intro b17
  refine vl_v (q_move rfl) rfl ?_
  refine l_append 0 rfl rfl rfl Try.underlying71 Try.underlying71 in73 rfl (by decide) (Reads.old hA) (by simp only [u32s_length, i64s_length, List.length_append]; omega) (by with_reducible first | exact bys_one _ | exact u32s_one _ | exact u64s_one _ | exact i64s_one _ | exact n64s_one _ | assumption) (by omega) (by omega) rfl ?_
  intro A19 c19 hc19
  simp only [List.set_cons_zero, List.set_cons_succ, ← bys_append, ← u32s_append, ← u64s_append, ← i64s_append, List.nil_append, Nat.zero_add]
  refine l_callR Try.func41 rfl rfl rfl (fun w1 H1 => rfirst_calls w1) rfl ?_
  intro A20 c20 hc20 hm20
  refine l_append 1 rfl rfl rfl Try.underlying71 Try.underlying71 in73 rfl (by decide) (Reads.row 0 rfl) (by rfl) (by with_reducible first | exact bys_one _ | exact u32s_one _ | exact u64s_one _ | exact i64s_one _ | exact n64s_one _ | assumption) (by omega) (by omega) rfl ?_
  intro A21 c21 hc21
  simp only [List.set_cons_zero, List.set_cons_succ, ← bys_append, ← u32s_append, ← u64s_append, ← i64s_append, List.nil_append, Nat.zero_add]
  refine vl_v (q_assign rfl) rfl ?_
  refine vl_nil ?_
  refine (th_n ?_)
  refine VC_seq ?_
  refine VC_pickL (ks := [1]) (by decide) rfl ?_
  refine VC_rowBlk (by omega) ?_
  intro bW more eW
  subst eW
  have hhiv : (h ++ iv).length = 16 := by rw [List.length_append, hh]; rfl
  refine VC_region ?_
  refine vl_v (q_move rfl) rfl ?_
  refine vl_v (q_move rfl) rfl ?_
  refine vl_v (q_idxS0 (m := 12) Try.underlying71 sz73 rfl rfl (by omega) (by rw [Nat.mul_one, Nat.zero_add])) rfl ?_
  refine vl_v (q_load 0 Try.underlying73 rfl rfl rfl (u32s_atA (by omega))) rfl ?_
  refine vl_v (q_move rfl) rfl ?_
  refine vl_v (q_conv_k (r := ((UInt32.ofNat (UInt64.ofNat n).toNat).toNat : Int)) Try.underlying3 Try.underlying73 rfl (by rw [htt, IntKind.wrap_u32, UInt32.toNat_ofNat']; omega)) rfl ?_
  refine vl_v (q_xor_u32 rfl rfl) rfl ?_
  refine vl_v (q_idxS0 (m := 12) Try.underlying71 sz73 rfl rfl (by omega) (by rw [Nat.mul_one, Nat.zero_add])) rfl ?_
  refine l_stU32A 0 rfl rfl rfl sz73 (by omega) ?_
  simp only [List.set_cons_zero, List.set_cons_succ]
  refine vl_nil ?_
  refine (th_n ?_)
  refine VC_seq ?_
  refine VC_region ?_
  refine vl_v (q_move rfl) rfl ?_
  refine vl_v (q_move rfl) rfl ?_
  refine vl_v (q_idxS0 (m := 13) Try.underlying71 sz73 rfl rfl (by omega) (by rw [Nat.mul_one, Nat.zero_add])) rfl ?_
  refine vl_v (q_load 0 Try.underlying73 rfl rfl rfl (u32s_atA (by simp only [List.length_set, u32s_length, *] <;> first | done | omega))) rfl ?_
  refine vl_v (q_move rfl) rfl ?_
  refine vl_v (q_conv_k (r := ((UInt64.ofNat n).toNat : Int)) Try.underlying3 Try.underlying62 rfl (by rw [htt, IntKind.wrap_u64]; omega)) rfl ?_
  refine vl_v (q_as (v := vU64 (UInt64.ofNat ((UInt64.ofNat n).toNat / 2 ^ 32))) (q_shr_u64 (p := UInt64.ofNat n) (m := 32) rfl rfl) rfl) rfl ?_
  refine vl_v (q_conv_k (r := ((UInt32.ofNat ((UInt64.ofNat n).toNat / 2 ^ 32)).toNat : Int)) Try.underlying62 Try.underlying73 rfl (by rw [IntKind.wrap_u32, UInt32.toNat_ofNat', UInt64.toNat_ofNat', htt]; omega)) rfl ?_
  refine vl_v (q_xor_u32 rfl rfl) rfl ?_
  refine vl_v (q_idxS0 (m := 13) Try.underlying71 sz73 rfl rfl (by omega) (by rw [Nat.mul_one, Nat.zero_add])) rfl ?_
  refine l_stU32A 0 rfl rfl rfl sz73 (by simp only [List.length_set, u32s_length, *] <;> first | done | omega) ?_
  simp only [List.set_cons_zero, List.set_cons_succ]
  refine vl_nil ?_
  refine (th_n ?_)
  refine VC_seq ?_
  refine VC_seq ?_
  refine VC_region ?_
  refine vl_v (q_move rfl) rfl ?_
  refine vl_nil ?_
  refine (th_n ?_)
  refine VC_yes (rfl) ?_
  refine VC_region ?_
  refine vl_v (q_move rfl) rfl ?_
  refine vl_v (q_move rfl) rfl ?_
  refine vl_v (q_idxS0 (m := 14) Try.underlying71 sz73 rfl rfl (by omega) (by rw [Nat.mul_one, Nat.zero_add])) rfl ?_
  refine vl_v (q_load 0 Try.underlying73 rfl rfl rfl (u32s_atA (by simp only [List.length_set, u32s_length, *] <;> first | done | omega))) rfl ?_
  refine vl_v (q_xorUn_u32 rfl) rfl ?_
  refine vl_v (q_idxS0 (m := 14) Try.underlying71 sz73 rfl rfl (by omega) (by rw [Nat.mul_one, Nat.zero_add])) rfl ?_
  refine l_stU32A 0 rfl rfl rfl sz73 (by simp only [List.length_set, u32s_length, *] <;> first | done | omega) ?_
  simp only [List.set_cons_zero, List.set_cons_succ]
  refine vl_nil ?_
  refine (th_n ?_)
  refine VC_seq ?_
  refine VC_region ?_
  refine vl_v (q_assign rfl) rfl ?_
  refine vl_nil ?_
  refine (th_n ?_)
  refine VC_seq ?_
  refine VC_seq ?_
  refine VC_nilRow 73 1 ?_
  refine VC_region ?_
  refine vl_v (q_assign rfl) rfl ?_
  refine vl_nil ?_
  refine (th_n ?_)
  refine VC_block ?_
  refine VC_loop (ι := Nat × Option Addr × Nat) (fun q => q.1 ≤ 16) (fun q => [(0, .slice Ah 8 ch), (1, .slice Ab 64 cb), (9, .slice (some ⟨bW, 0, none⟩) 16 c21), (10, .slice q.2.1 q.1 q.2.2), (11, vN q.1)]) (fun q => [.row 73 1 (.slice q.2.1 q.1 q.2.2) q.1 (u32s (rwW blk q.1)), .blk bW 73 (u32s v0 ++ more)]) (fun q => 16 - q.1) (0, none, 0) (by omega) (Sub.cons (s := 0) rfl (Sub.cons (s := 1) rfl (Sub.cons (s := 9) rfl (Sub.cons (s := 10) rfl (Sub.cons (s := 11) rfl (Sub.nil _)))))) (fun w' H => by rw [hve]; exact H) ?_
  rintro ⟨i, B, d⟩ hp
  simp only at hp
  refine VC_seq ?_
  refine VC_seq ?_
  refine VC_region ?_
  refine vl_v (q_move rfl) rfl ?_
  refine vl_v (q_lss_n (q := 16) Try.underlying3 rfl rfl) rfl ?_
  refine vl_nil ?_
  refine (th_n ?_)
  refine VC_cond rfl (fun ht48 => ?_) (fun ht48 => ?_)
  · skip
    have ht48 := of_decide_eq_true ht48
    simp only at ht48
    have hl := rwW_length blk i
    refine VC_skip ?_
    refine (th_n ?_)
    refine VC_seq ?_
    refine VC_block ?_
    refine VC_region ?_
    refine vl_v (q_move rfl) rfl ?_
    refine vl_v (q_move rfl) rfl ?_
    refine vl_v (q_move rfl) rfl ?_
    refine vl_v (q_mul_n (p := 4) rfl rfl (by omega)) rfl ?_
    refine vl_v (q_move rfl) rfl ?_
    refine vl_v (q_mul_n (p := 4) rfl rfl (by omega)) rfl ?_
    refine vl_v (q_add_n (q := 4) rfl rfl (by omega)) rfl ?_
    refine vl_v (q_slcS Try.underlying45 sz5 rfl ⟨_, rfl⟩ ⟨_, rfl⟩ rfl (.inl rfl) (by omega) (by omega) (by omega)) rfl ?_
    refine vl_v (q_callV Try.func59 rfl rfl rfl (fun w1 H1 => rofA blk _ (4 * i) _ _ _ w1 (H1.sl0 hB) (by omega) (by omega) (by omega) (by omega) (by omega))) rfl ?_
    refine vl_v (q_as (v := vU32 (word32 (blk.drop (4 * i)))) (q_conv_nu32 Try.underlying62 Try.underlying73 rfl) rfl) rfl ?_
    refine l_litA (cs := u32s [_]) Try.underlying71 in73 (by decide) rfl rfl rfl rfl (by exact one_all rfl) rfl rfl ?_
    intro b61
    refine l_append 1 rfl rfl rfl Try.underlying71 Try.underlying71 in73 rfl (by decide) (Reads.row 0 rfl) (by rfl) (by with_reducible first | exact bys_one _ | exact u32s_one _ | exact u64s_one _ | exact i64s_one _ | exact n64s_one _ | assumption) (by omega) (by omega) rfl ?_
    intro A62 c62 hc62
    simp only [List.set_cons_zero, List.set_cons_succ, ← bys_append, ← u32s_append, ← u64s_append, ← i64s_append, List.nil_append, Nat.zero_add]
    refine vl_v (q_assign rfl) rfl ?_
    refine vl_nil ?_
    refine (bl_n (th_n ?_))
    refine VC_region ?_
    refine vl_v (q_move rfl) rfl ?_
    refine vl_v (q_add_n (q := 1) rfl rfl (by omega)) rfl ?_
    refine vl_v (q_assign rfl) rfl ?_
    refine vl_nil ?_
    refine (th_n ?_)
    refine ⟨(i + 1, A62, c62), by simp only; omega, by simp only; omega, (Sub.cons (s := 0) rfl (Sub.cons (s := 1) rfl (Sub.cons (s := 9) rfl (Sub.cons (s := 10) rfl (Sub.cons (s := 11) rfl (Sub.nil _)))))), fun w H => St.pick H (ks := [1, 2]) (by decide) rfl⟩
  · skip
    have ht48 := of_decide_eq_false ht48
    simp only at ht48
    obtain rfl : i = 16 := by omega
    rw [← hme]
    refine VC_exit ?_
    refine (th_x (th_x (bl_xs (th_n ?_))))
    refine VC_seq ?_
    refine VC_region ?_
    refine l_call Try.func60 rfl rfl rfl (fun w1 H1 => rrows_more w1 H1) rfl ?_
    rintro v63 L63 ⟨A63, c63, bf, rfl, hc63, rfl⟩
    have hrv := rvals_length bf
    refine vl_v (q_assign rfl) rfl ?_
    refine vl_nil ?_
    refine (th_n ?_)
    refine VC_seq ?_
    refine VC_seq ?_
    refine VC_region ?_
    refine vl_v (q_assign rfl) rfl ?_
    refine vl_nil ?_
    refine (th_n ?_)
    refine VC_block ?_
    refine VC_loop (ι := Nat) (fun r => r ≤ 10) (fun r => [(0, .slice Ah 8 ch), (9, .slice (some ⟨bW, 0, none⟩) 16 c21), (10, .slice B 16 d), (12, .slice A63 10 c63), (13, vN r)]) (fun r => .blk bW 73 (u32s (rndsM v0 m16 r) ++ more) :: .row 73 1 (.slice B 16 d) 16 (u32s m16) :: .row 97 1 (.slice A63 10 c63) 10 (rvals bf) :: rowsR bf) (fun r => 10 - r) 0 (by omega) (Sub.cons (s := 0) rfl (Sub.cons (s := 9) rfl (Sub.cons (s := 10) rfl (Sub.cons (s := 12) rfl (Sub.cons (s := 13) rfl (Sub.nil _)))))) (fun w' H => H.perm (List.Perm.swap _ _ _)) ?_
    rintro r hp
    have hrl := (rndsM_length v0 m16 r).trans hv0
    refine VC_seq ?_
    refine VC_seq ?_
    refine VC_region ?_
    refine vl_v (q_move rfl) rfl ?_
    refine vl_v (q_move rfl) rfl ?_
    refine vl_v (q_lenS Try.underlying95 rfl) rfl ?_
    refine vl_v (q_lss_n Try.underlying3 rfl rfl) rfl ?_
    refine vl_nil ?_
    refine (th_n ?_)
    refine VC_cond rfl (fun ht67 => ?_) (fun ht67 => ?_)
    · skip
      have ht67 := of_decide_eq_true ht67
      have hr9 : r < 10 := by omega
      have hri := rints_length hr9
      have s0 : sg r 0 < 16 := sg_lt hr9 (by decide)
      have s1 : sg r 1 < 16 := sg_lt hr9 (by decide)
      have s2 : sg r 2 < 16 := sg_lt hr9 (by decide)
      have s3 : sg r 3 < 16 := sg_lt hr9 (by decide)
      have s4 : sg r 4 < 16 := sg_lt hr9 (by decide)
      have s5 : sg r 5 < 16 := sg_lt hr9 (by decide)
      have s6 : sg r 6 < 16 := sg_lt hr9 (by decide)
      have s7 : sg r 7 < 16 := sg_lt hr9 (by decide)
      have s8 : sg r 8 < 16 := sg_lt hr9 (by decide)
      have s9 : sg r 9 < 16 := sg_lt hr9 (by decide)
      have s10 : sg r 10 < 16 := sg_lt hr9 (by decide)
      have s11 : sg r 11 < 16 := sg_lt hr9 (by decide)
      have s12 : sg r 12 < 16 := sg_lt hr9 (by decide)
      have s13 : sg r 13 < 16 := sg_lt hr9 (by decide)
      have s14 : sg r 14 < 16 := sg_lt hr9 (by decide)
      have s15 : sg r 15 < 16 := sg_lt hr9 (by decide)
      refine VC_skip ?_
      refine (th_n ?_)
      refine VC_seq ?_
      refine VC_block ?_
      refine VC_seq ?_
      refine VC_region ?_
      refine vl_v (q_move rfl) rfl ?_
      refine vl_v (q_move rfl) rfl ?_
      refine vl_v (q_idxRd Try.underlying95 sz97 rfl rfl (by omega) (Reads.row 2 rfl) (by omega)) rfl ?_
      refine vl_v (q_loadRd rfl rfl rfl (Reads.row 2 rfl) (rvals_at bf r (by omega))) rfl ?_
      refine vl_v (q_assign rfl) rfl ?_
      refine vl_nil ?_
      refine (th_n ?_)
      refine VC_seq ?_
      refine VC_drawV 13 [[], [], [], [2], [3], [1, 4], [5], [], [], [8], [9], [7, 10], [11], [0, 6, 12]] [[], [], [], [2], [2, 3], [1, 2, 3, 4], [1, 2, 3, 4, 5], [], [], [8], [8, 9], [7, 8, 9, 10], [7, 8, 9, 10, 11], [0, 1, 2, 3, 4, 5, 6, 7, 8, 9, 10, 11, 12]] rfl (by kernel_rfl) ?_
      refine qv_v (q_move rfl) ?_
      refine qv_v (q_move rfl) ?_
      refine qv_v (q_move rfl) ?_
      refine qv_v (q_idxRd (m := 0) Try.underlying97 sz3 rfl rfl (by omega) (rowsRd bf r (by omega) _ _ _) (by simp only [u32s_length, i64s_length, List.length_append]; omega)) ?_
      refine qv_v (q_loadRd rfl rfl rfl (rowsRd bf r (by omega) _ _ _) (rints_at (j := 0) hr9 (by decide))) ?_
      refine qv_v (q_idxRd Try.underlying71 sz73 rfl rfl (by omega) (Reads.row 1 rfl) (by simp only [u32s_length, i64s_length, List.length_append]; omega)) ?_
      refine qv_v (q_loadRd Try.underlying73 rfl rfl (Reads.row 1 rfl) (u32s_at (by omega))) ?_
      refine qv_v (q_move rfl) ?_
      refine qv_v (q_move rfl) ?_
      refine qv_v (q_idxRd (m := 1) Try.underlying97 sz3 rfl rfl (by omega) (rowsRd bf r (by omega) _ _ _) (by simp only [u32s_length, i64s_length, List.length_append]; omega)) ?_
      refine qv_v (q_loadRd rfl rfl rfl (rowsRd bf r (by omega) _ _ _) (rints_at (j := 1) hr9 (by decide))) ?_
      refine qv_v (q_idxRd Try.underlying71 sz73 rfl rfl (by omega) (Reads.row 1 rfl) (by simp only [u32s_length, i64s_length, List.length_append]; omega)) ?_
      refine qv_v (q_loadRd Try.underlying73 rfl rfl (Reads.row 1 rfl) (u32s_at (by omega))) ?_
      refine qv_end ?_
      refine VL.keep (Sub.cons (s := 0) rfl (Sub.cons (s := 9) rfl (Sub.cons (s := 10) rfl (Sub.cons (s := 12) rfl (Sub.cons (s := 13) rfl (Sub.cons (s := 67) rfl (Sub.cons (s := 14) rfl (Sub.cons (s := 74) rfl (Sub.cons (s := 80) rfl (Sub.cons (s := 86) rfl (Sub.nil _))))))))))) ?_
      refine l_callE Try.func61 rfl rfl rfl (fun w1 H1 => rmix_calls _ 0 4 8 12 _ _ _ bW (by with_reducible exact hrl) (by decide) (by decide) (by decide) (by decide) w1 H1) rfl ?_
      refine vl_nil ?_
      refine (qn_n (th_n ?_))
      refine VC_seq ?_
      refine VC_drawV 13 [[], [], [], [2], [3], [1, 4], [5], [], [], [8], [9], [7, 10], [11], [0, 6, 12]] [[], [], [], [2], [2, 3], [1, 2, 3, 4], [1, 2, 3, 4, 5], [], [], [8], [8, 9], [7, 8, 9, 10], [7, 8, 9, 10, 11], [0, 1, 2, 3, 4, 5, 6, 7, 8, 9, 10, 11, 12]] rfl (by kernel_rfl) ?_
      refine qv_v (q_move rfl) ?_
      refine qv_v (q_move rfl) ?_
      refine qv_v (q_move rfl) ?_
      refine qv_v (q_idxRd (m := 2) Try.underlying97 sz3 rfl rfl (by omega) (rowsRd bf r (by omega) _ _ _) (by simp only [u32s_length, i64s_length, List.length_append]; omega)) ?_
      refine qv_v (q_loadRd rfl rfl rfl (rowsRd bf r (by omega) _ _ _) (rints_at (j := 2) hr9 (by decide))) ?_
      refine qv_v (q_idxRd Try.underlying71 sz73 rfl rfl (by omega) (Reads.row 1 rfl) (by simp only [u32s_length, i64s_length, List.length_append]; omega)) ?_
      refine qv_v (q_loadRd Try.underlying73 rfl rfl (Reads.row 1 rfl) (u32s_at (by omega))) ?_
      refine qv_v (q_move rfl) ?_
      refine qv_v (q_move rfl) ?_
      refine qv_v (q_idxRd (m := 3) Try.underlying97 sz3 rfl rfl (by omega) (rowsRd bf r (by omega) _ _ _) (by simp only [u32s_length, i64s_length, List.length_append]; omega)) ?_
      refine qv_v (q_loadRd rfl rfl rfl (rowsRd bf r (by omega) _ _ _) (rints_at (j := 3) hr9 (by decide))) ?_
      refine qv_v (q_idxRd Try.underlying71 sz73 rfl rfl (by omega) (Reads.row 1 rfl) (by simp only [u32s_length, i64s_length, List.length_append]; omega)) ?_
      refine qv_v (q_loadRd Try.underlying73 rfl rfl (Reads.row 1 rfl) (u32s_at (by omega))) ?_
      refine qv_end ?_
      refine VL.keep (Sub.cons (s := 0) rfl (Sub.cons (s := 9) rfl (Sub.cons (s := 10) rfl (Sub.cons (s := 12) rfl (Sub.cons (s := 13) rfl (Sub.cons (s := 67) rfl (Sub.cons (s := 14) rfl (Sub.cons (s := 88) rfl (Sub.cons (s := 94) rfl (Sub.cons (s := 100) rfl (Sub.nil _))))))))))) ?_
      refine l_callE Try.func61 rfl rfl rfl (fun w1 H1 => rmix_calls _ 1 5 9 13 _ _ _ bW (by simp only [mixL_length]; exact hrl) (by decide) (by decide) (by decide) (by decide) w1 H1) rfl ?_
      refine vl_nil ?_
      refine (qn_n (th_n ?_))
      refine VC_seq ?_
      refine VC_drawV 13 [[], [], [], [2], [3], [1, 4], [5], [], [], [8], [9], [7, 10], [11], [0, 6, 12]] [[], [], [], [2], [2, 3], [1, 2, 3, 4], [1, 2, 3, 4, 5], [], [], [8], [8, 9], [7, 8, 9, 10], [7, 8, 9, 10, 11], [0, 1, 2, 3, 4, 5, 6, 7, 8, 9, 10, 11, 12]] rfl (by kernel_rfl) ?_
      refine qv_v (q_move rfl) ?_
      refine qv_v (q_move rfl) ?_
      refine qv_v (q_move rfl) ?_
      refine qv_v (q_idxRd (m := 4) Try.underlying97 sz3 rfl rfl (by omega) (rowsRd bf r (by omega) _ _ _) (by simp only [u32s_length, i64s_length, List.length_append]; omega)) ?_
      refine qv_v (q_loadRd rfl rfl rfl (rowsRd bf r (by omega) _ _ _) (rints_at (j := 4) hr9 (by decide))) ?_
      refine qv_v (q_idxRd Try.underlying71 sz73 rfl rfl (by omega) (Reads.row 1 rfl) (by simp only [u32s_length, i64s_length, List.length_append]; omega)) ?_
      refine qv_v (q_loadRd Try.underlying73 rfl rfl (Reads.row 1 rfl) (u32s_at (by omega))) ?_
      refine qv_v (q_move rfl) ?_
      refine qv_v (q_move rfl) ?_
      refine qv_v (q_idxRd (m := 5) Try.underlying97 sz3 rfl rfl (by omega) (rowsRd bf r (by omega) _ _ _) (by simp only [u32s_length, i64s_length, List.length_append]; omega)) ?_
      refine qv_v (q_loadRd rfl rfl rfl (rowsRd bf r (by omega) _ _ _) (rints_at (j := 5) hr9 (by decide))) ?_
      refine qv_v (q_idxRd Try.underlying71 sz73 rfl rfl (by omega) (Reads.row 1 rfl) (by simp only [u32s_length, i64s_length, List.length_append]; omega)) ?_
      refine qv_v (q_loadRd Try.underlying73 rfl rfl (Reads.row 1 rfl) (u32s_at (by omega))) ?_
      refine qv_end ?_
      refine VL.keep (Sub.cons (s := 0) rfl (Sub.cons (s := 9) rfl (Sub.cons (s := 10) rfl (Sub.cons (s := 12) rfl (Sub.cons (s := 13) rfl (Sub.cons (s := 67) rfl (Sub.cons (s := 14) rfl (Sub.cons (s := 102) rfl (Sub.cons (s := 108) rfl (Sub.cons (s := 114) rfl (Sub.nil _))))))))))) ?_
      refine l_callE Try.func61 rfl rfl rfl (fun w1 H1 => rmix_calls _ 2 6 10 14 _ _ _ bW (by simp only [mixL_length]; exact hrl) (by decide) (by decide) (by decide) (by decide) w1 H1) rfl ?_
      refine vl_nil ?_
      refine (qn_n (th_n ?_))
      refine VC_seq ?_
      refine VC_drawV 13 [[], [], [], [2], [3], [1, 4], [5], [], [], [8], [9], [7, 10], [11], [0, 6, 12]] [[], [], [], [2], [2, 3], [1, 2, 3, 4], [1, 2, 3, 4, 5], [], [], [8], [8, 9], [7, 8, 9, 10], [7, 8, 9, 10, 11], [0, 1, 2, 3, 4, 5, 6, 7, 8, 9, 10, 11, 12]] rfl (by kernel_rfl) ?_
      refine qv_v (q_move rfl) ?_
      refine qv_v (q_move rfl) ?_
      refine qv_v (q_move rfl) ?_
      refine qv_v (q_idxRd (m := 6) Try.underlying97 sz3 rfl rfl (by omega) (rowsRd bf r (by omega) _ _ _) (by simp only [u32s_length, i64s_length, List.length_append]; omega)) ?_
      refine qv_v (q_loadRd rfl rfl rfl (rowsRd bf r (by omega) _ _ _) (rints_at (j := 6) hr9 (by decide))) ?_
      refine qv_v (q_idxRd Try.underlying71 sz73 rfl rfl (by omega) (Reads.row 1 rfl) (by simp only [u32s_length, i64s_length, List.length_append]; omega)) ?_
      refine qv_v (q_loadRd Try.underlying73 rfl rfl (Reads.row 1 rfl) (u32s_at (by omega))) ?_
      refine qv_v (q_move rfl) ?_
      refine qv_v (q_move rfl) ?_
      refine qv_v (q_idxRd (m := 7) Try.underlying97 sz3 rfl rfl (by omega) (rowsRd bf r (by omega) _ _ _) (by simp only [u32s_length, i64s_length, List.length_append]; omega)) ?_
      refine qv_v (q_loadRd rfl rfl rfl (rowsRd bf r (by omega) _ _ _) (rints_at (j := 7) hr9 (by decide))) ?_
      refine qv_v (q_idxRd Try.underlying71 sz73 rfl rfl (by omega) (Reads.row 1 rfl) (by simp only [u32s_length, i64s_length, List.length_append]; omega)) ?_
      refine qv_v (q_loadRd Try.underlying73 rfl rfl (Reads.row 1 rfl) (u32s_at (by omega))) ?_
      refine qv_end ?_
      refine VL.keep (Sub.cons (s := 0) rfl (Sub.cons (s := 9) rfl (Sub.cons (s := 10) rfl (Sub.cons (s := 12) rfl (Sub.cons (s := 13) rfl (Sub.cons (s := 67) rfl (Sub.cons (s := 14) rfl (Sub.cons (s := 116) rfl (Sub.cons (s := 122) rfl (Sub.cons (s := 128) rfl (Sub.nil _))))))))))) ?_
      refine l_callE Try.func61 rfl rfl rfl (fun w1 H1 => rmix_calls _ 3 7 11 15 _ _ _ bW (by simp only [mixL_length]; exact hrl) (by decide) (by decide) (by decide) (by decide) w1 H1) rfl ?_
      refine vl_nil ?_
      refine (qn_n (th_n ?_))
      refine VC_seq ?_
      refine VC_drawV 13 [[], [], [], [2], [3], [1, 4], [5], [], [], [8], [9], [7, 10], [11], [0, 6, 12]] [[], [], [], [2], [2, 3], [1, 2, 3, 4], [1, 2, 3, 4, 5], [], [], [8], [8, 9], [7, 8, 9, 10], [7, 8, 9, 10, 11], [0, 1, 2, 3, 4, 5, 6, 7, 8, 9, 10, 11, 12]] rfl (by kernel_rfl) ?_
      refine qv_v (q_move rfl) ?_
      refine qv_v (q_move rfl) ?_
      refine qv_v (q_move rfl) ?_
      refine qv_v (q_idxRd (m := 8) Try.underlying97 sz3 rfl rfl (by omega) (rowsRd bf r (by omega) _ _ _) (by simp only [u32s_length, i64s_length, List.length_append]; omega)) ?_
      refine qv_v (q_loadRd rfl rfl rfl (rowsRd bf r (by omega) _ _ _) (rints_at (j := 8) hr9 (by decide))) ?_
      refine qv_v (q_idxRd Try.underlying71 sz73 rfl rfl (by omega) (Reads.row 1 rfl) (by simp only [u32s_length, i64s_length, List.length_append]; omega)) ?_
      refine qv_v (q_loadRd Try.underlying73 rfl rfl (Reads.row 1 rfl) (u32s_at (by omega))) ?_
      refine qv_v (q_move rfl) ?_
      refine qv_v (q_move rfl) ?_
      refine qv_v (q_idxRd (m := 9) Try.underlying97 sz3 rfl rfl (by omega) (rowsRd bf r (by omega) _ _ _) (by simp only [u32s_length, i64s_length, List.length_append]; omega)) ?_
      refine qv_v (q_loadRd rfl rfl rfl (rowsRd bf r (by omega) _ _ _) (rints_at (j := 9) hr9 (by decide))) ?_
      refine qv_v (q_idxRd Try.underlying71 sz73 rfl rfl (by omega) (Reads.row 1 rfl) (by simp only [u32s_length, i64s_length, List.length_append]; omega)) ?_
      refine qv_v (q_loadRd Try.underlying73 rfl rfl (Reads.row 1 rfl) (u32s_at (by omega))) ?_
      refine qv_end ?_
      refine VL.keep (Sub.cons (s := 0) rfl (Sub.cons (s := 9) rfl (Sub.cons (s := 10) rfl (Sub.cons (s := 12) rfl (Sub.cons (s := 13) rfl (Sub.cons (s := 67) rfl (Sub.cons (s := 14) rfl (Sub.cons (s := 130) rfl (Sub.cons (s := 136) rfl (Sub.cons (s := 142) rfl (Sub.nil _))))))))))) ?_
      refine l_callE Try.func61 rfl rfl rfl (fun w1 H1 => rmix_calls _ 0 5 10 15 _ _ _ bW (by simp only [mixL_length]; exact hrl) (by decide) (by decide) (by decide) (by decide) w1 H1) rfl ?_
      refine vl_nil ?_
      refine (qn_n (th_n ?_))
      refine VC_seq ?_
      refine VC_drawV 13 [[], [], [], [2], [3], [1, 4], [5], [], [], [8], [9], [7, 10], [11], [0, 6, 12]] [[], [], [], [2], [2, 3], [1, 2, 3, 4], [1, 2, 3, 4, 5], [], [], [8], [8, 9], [7, 8, 9, 10], [7, 8, 9, 10, 11], [0, 1, 2, 3, 4, 5, 6, 7, 8, 9, 10, 11, 12]] rfl (by kernel_rfl) ?_
      refine qv_v (q_move rfl) ?_
      refine qv_v (q_move rfl) ?_
      refine qv_v (q_move rfl) ?_
      refine qv_v (q_idxRd (m := 10) Try.underlying97 sz3 rfl rfl (by omega) (rowsRd bf r (by omega) _ _ _) (by simp only [u32s_length, i64s_length, List.length_append]; omega)) ?_
      refine qv_v (q_loadRd rfl rfl rfl (rowsRd bf r (by omega) _ _ _) (rints_at (j := 10) hr9 (by decide))) ?_
      refine qv_v (q_idxRd Try.underlying71 sz73 rfl rfl (by omega) (Reads.row 1 rfl) (by simp only [u32s_length, i64s_length, List.length_append]; omega)) ?_
      refine qv_v (q_loadRd Try.underlying73 rfl rfl (Reads.row 1 rfl) (u32s_at (by omega))) ?_
      refine qv_v (q_move rfl) ?_
      refine qv_v (q_move rfl) ?_
      refine qv_v (q_idxRd (m := 11) Try.underlying97 sz3 rfl rfl (by omega) (rowsRd bf r (by omega) _ _ _) (by simp only [u32s_length, i64s_length, List.length_append]; omega)) ?_
      refine qv_v (q_loadRd rfl rfl rfl (rowsRd bf r (by omega) _ _ _) (rints_at (j := 11) hr9 (by decide))) ?_
      refine qv_v (q_idxRd Try.underlying71 sz73 rfl rfl (by omega) (Reads.row 1 rfl) (by simp only [u32s_length, i64s_length, List.length_append]; omega)) ?_
      refine qv_v (q_loadRd Try.underlying73 rfl rfl (Reads.row 1 rfl) (u32s_at (by omega))) ?_
      refine qv_end ?_
      refine VL.keep (Sub.cons (s := 0) rfl (Sub.cons (s := 9) rfl (Sub.cons (s := 10) rfl (Sub.cons (s := 12) rfl (Sub.cons (s := 13) rfl (Sub.cons (s := 67) rfl (Sub.cons (s := 14) rfl (Sub.cons (s := 144) rfl (Sub.cons (s := 150) rfl (Sub.cons (s := 156) rfl (Sub.nil _))))))))))) ?_
      refine l_callE Try.func61 rfl rfl rfl (fun w1 H1 => rmix_calls _ 1 6 11 12 _ _ _ bW (by simp only [mixL_length]; exact hrl) (by decide) (by decide) (by decide) (by decide) w1 H1) rfl ?_
      refine vl_nil ?_
      refine (qn_n (th_n ?_))
      refine VC_seq ?_
      refine VC_drawV 13 [[], [], [], [2], [3], [1, 4], [5], [], [], [8], [9], [7, 10], [11], [0, 6, 12]] [[], [], [], [2], [2, 3], [1, 2, 3, 4], [1, 2, 3, 4, 5], [], [], [8], [8, 9], [7, 8, 9, 10], [7, 8, 9, 10, 11], [0, 1, 2, 3, 4, 5, 6, 7, 8, 9, 10, 11, 12]] rfl (by kernel_rfl) ?_
      refine qv_v (q_move rfl) ?_
      refine qv_v (q_move rfl) ?_
      refine qv_v (q_move rfl) ?_
      refine qv_v (q_idxRd (m := 12) Try.underlying97 sz3 rfl rfl (by omega) (rowsRd bf r (by omega) _ _ _) (by simp only [u32s_length, i64s_length, List.length_append]; omega)) ?_
      refine qv_v (q_loadRd rfl rfl rfl (rowsRd bf r (by omega) _ _ _) (rints_at (j := 12) hr9 (by decide))) ?_
      refine qv_v (q_idxRd Try.underlying71 sz73 rfl rfl (by omega) (Reads.row 1 rfl) (by simp only [u32s_length, i64s_length, List.length_append]; omega)) ?_
      refine qv_v (q_loadRd Try.underlying73 rfl rfl (Reads.row 1 rfl) (u32s_at (by omega))) ?_
      refine qv_v (q_move rfl) ?_
      refine qv_v (q_move rfl) ?_
      refine qv_v (q_idxRd (m := 13) Try.underlying97 sz3 rfl rfl (by omega) (rowsRd bf r (by omega) _ _ _) (by simp only [u32s_length, i64s_length, List.length_append]; omega)) ?_
      refine qv_v (q_loadRd rfl rfl rfl (rowsRd bf r (by omega) _ _ _) (rints_at (j := 13) hr9 (by decide))) ?_
      refine qv_v (q_idxRd Try.underlying71 sz73 rfl rfl (by omega) (Reads.row 1 rfl) (by simp only [u32s_length, i64s_length, List.length_append]; omega)) ?_
      refine qv_v (q_loadRd Try.underlying73 rfl rfl (Reads.row 1 rfl) (u32s_at (by omega))) ?_
      refine qv_end ?_
      refine VL.keep (Sub.cons (s := 0) rfl (Sub.cons (s := 9) rfl (Sub.cons (s := 10) rfl (Sub.cons (s := 12) rfl (Sub.cons (s := 13) rfl (Sub.cons (s := 67) rfl (Sub.cons (s := 14) rfl (Sub.cons (s := 158) rfl (Sub.cons (s := 164) rfl (Sub.cons (s := 170) rfl (Sub.nil _))))))))))) ?_
      refine l_callE Try.func61 rfl rfl rfl (fun w1 H1 => rmix_calls _ 2 7 8 13 _ _ _ bW (by simp only [mixL_length]; exact hrl) (by decide) (by decide) (by decide) (by decide) w1 H1) rfl ?_
      refine vl_nil ?_
      refine (qn_n (th_n ?_))
      refine VC_drawV 13 [[], [], [], [2], [3], [1, 4], [5], [], [], [8], [9], [7, 10], [11], [0, 6, 12]] [[], [], [], [2], [2, 3], [1, 2, 3, 4], [1, 2, 3, 4, 5], [], [], [8], [8, 9], [7, 8, 9, 10], [7, 8, 9, 10, 11], [0, 1, 2, 3, 4, 5, 6, 7, 8, 9, 10, 11, 12]] rfl (by kernel_rfl) ?_
      refine qv_v (q_move rfl) ?_
      refine qv_v (q_move rfl) ?_
      refine qv_v (q_move rfl) ?_
      refine qv_v (q_idxRd (m := 14) Try.underlying97 sz3 rfl rfl (by omega) (rowsRd bf r (by omega) _ _ _) (by simp only [u32s_length, i64s_length, List.length_append]; omega)) ?_
      refine qv_v (q_loadRd rfl rfl rfl (rowsRd bf r (by omega) _ _ _) (rints_at (j := 14) hr9 (by decide))) ?_
      refine qv_v (q_idxRd Try.underlying71 sz73 rfl rfl (by omega) (Reads.row 1 rfl) (by simp only [u32s_length, i64s_length, List.length_append]; omega)) ?_
      refine qv_v (q_loadRd Try.underlying73 rfl rfl (Reads.row 1 rfl) (u32s_at (by omega))) ?_
      refine qv_v (q_move rfl) ?_
      refine qv_v (q_move rfl) ?_
      refine qv_v (q_idxRd (m := 15) Try.underlying97 sz3 rfl rfl (by omega) (rowsRd bf r (by omega) _ _ _) (by simp only [u32s_length, i64s_length, List.length_append]; omega)) ?_
      refine qv_v (q_loadRd rfl rfl rfl (rowsRd bf r (by omega) _ _ _) (rints_at (j := 15) hr9 (by decide))) ?_
      refine qv_v (q_idxRd Try.underlying71 sz73 rfl rfl (by omega) (Reads.row 1 rfl) (by simp only [u32s_length, i64s_length, List.length_append]; omega)) ?_
      refine qv_v (q_loadRd Try.underlying73 rfl rfl (Reads.row 1 rfl) (u32s_at (by omega))) ?_
      refine qv_end ?_
      refine VL.keep (Sub.cons (s := 0) rfl (Sub.cons (s := 9) rfl (Sub.cons (s := 10) rfl (Sub.cons (s := 12) rfl (Sub.cons (s := 13) rfl (Sub.cons (s := 67) rfl (Sub.cons (s := 14) rfl (Sub.cons (s := 172) rfl (Sub.cons (s := 178) rfl (Sub.cons (s := 184) rfl (Sub.nil _))))))))))) ?_
      refine l_callE Try.func61 rfl rfl rfl (fun w1 H1 => rmix_calls _ 3 4 9 14 _ _ _ bW (by simp only [mixL_length]; exact hrl) (by decide) (by decide) (by decide) (by decide) w1 H1) rfl ?_
      refine vl_nil ?_
      refine (qn_n (bl_n (th_n ?_)))
      refine VC_region ?_
      refine vl_v (q_move rfl) rfl ?_
      refine vl_v (q_add_n (q := 1) rfl rfl (by omega)) rfl ?_
      refine vl_v (q_assign rfl) rfl ?_
      refine vl_nil ?_
      refine (th_n ?_)
      refine ⟨r + 1, by omega, by omega, (Sub.cons (s := 0) rfl (Sub.cons (s := 9) rfl (Sub.cons (s := 10) rfl (Sub.cons (s := 12) rfl (Sub.cons (s := 13) rfl (Sub.nil _)))))), fun w H => H⟩
    · skip
      have ht67 := of_decide_eq_false ht67
      obtain rfl : r = 10 := by omega
      refine VC_exit ?_
      refine (th_x (th_x (bl_xs (th_n ?_))))
      refine VC_seq ?_
      refine VC_region ?_
      refine vl_v (q_assign rfl) rfl ?_
      refine vl_nil ?_
      refine (th_n ?_)
      refine VC_seq ?_
      refine VC_seq ?_
      refine VC_nilRow 73 1 ?_
      refine VC_region ?_
      refine vl_v (q_assign rfl) rfl ?_
      refine vl_nil ?_
      refine (th_n ?_)
      refine VC_block ?_
      refine VC_loop (ι := Nat × Option Addr × Nat) (fun q => q.1 ≤ 8) (fun q => [(0, .slice Ah 8 ch), (9, .slice (some ⟨bW, 0, none⟩) 16 c21), (15, .slice q.2.1 q.1 q.2.2), (16, vN q.1)]) (fun q => [.row 73 1 (.slice q.2.1 q.1 q.2.2) q.1 (u32s (rxor h (rndsM v0 m16 10) q.1)), .blk bW 73 (u32s (rndsM v0 m16 10) ++ more)]) (fun q => 8 - q.1) (0, none, 0) (by omega) (Sub.cons (s := 0) rfl (Sub.cons (s := 9) rfl (Sub.cons (s := 15) rfl (Sub.cons (s := 16) rfl (Sub.nil _))))) (fun w' H => H.pick (ks := [0, 1]) (by decide) rfl) ?_
      rintro ⟨z, X, e⟩ hp
      simp only at hp
      refine VC_seq ?_
      refine VC_seq ?_
      refine VC_region ?_
      refine vl_v (q_move rfl) rfl ?_
      refine vl_v (q_lss_n (q := 8) Try.underlying3 rfl rfl) rfl ?_
      refine vl_nil ?_
      refine (th_n ?_)
      refine VC_cond rfl (fun ht187 => ?_) (fun ht187 => ?_)
      · skip
        have ht187 := of_decide_eq_true ht187
        simp only at ht187
        have hl := rxor_length h (rndsM v0 m16 10) z
        refine VC_skip ?_
        refine (th_n ?_)
        refine VC_seq ?_
        refine VC_block ?_
        refine VC_drawM 17 [[], [], [], [1, 2], [3], [], [], [5, 6], [7], [4, 8], [], [], [11], [10, 12], [13], [9, 14], [15], [0, 16], [17, 0, 1, 2, 3, 4, 5, 6, 7, 8, 9, 10, 11, 12, 13, 14, 15, 16]] [[], [], [], [1, 2], [1, 2, 3], [], [], [5, 6], [5, 6, 7], [1, 2, 3, 4, 5, 6, 7, 8], [], [], [11], [10, 11, 12], [10, 11, 12, 13], [1, 2, 3, 4, 5, 6, 7, 8, 9, 10, 11, 12, 13, 14], [1, 2, 3, 4, 5, 6, 7, 8, 9, 10, 11, 12, 13, 14, 15], [0, 1, 2, 3, 4, 5, 6, 7, 8, 9, 10, 11, 12, 13, 14, 15, 16], [0, 1, 2, 3, 4, 5, 6, 7, 8, 9, 10, 11, 12, 13, 14, 15, 16, 17]] rfl (by kernel_rfl) ?_
        refine qm_v (fun xs hx => q_move rfl) ?_
        refine qm_v (fun xs hx => q_move rfl) ?_
        refine qm_v (fun xs hx => q_move rfl) ?_
        refine qm_v (fun xs hx => q_idxRd Try.underlying71 sz73 rfl rfl (by omega) (Reads.old hA) (by simp only [u32s_length, i64s_length, List.length_append]; omega)) ?_
        refine qm_v (fun xs hx => q_loadRd Try.underlying73 rfl rfl (Reads.old hA) (u32s_at (by omega))) ?_
        refine qm_v (fun xs hx => q_move rfl) ?_
        refine qm_v (fun xs hx => q_move rfl) ?_
        refine qm_v (fun xs hx => q_idxS0 Try.underlying71 sz73 rfl rfl (by omega) (by rw [Nat.mul_one, Nat.zero_add])) ?_
        refine qm_v (fun xs hx => q_load 1 Try.underlying73 rfl rfl rfl (u32s_atA (by omega))) ?_
        refine qm_v (fun xs hx => q_xor_u32 rfl rfl) ?_
        refine qm_v (fun xs hx => q_move rfl) ?_
        refine qm_v (fun xs hx => q_move rfl) ?_
        refine qm_v (fun xs hx => q_add_n (q := 8) rfl rfl (by omega)) ?_
        refine qm_v (fun xs hx => q_idxS0 Try.underlying71 sz73 rfl rfl (by omega) (by rw [Nat.mul_one, Nat.zero_add])) ?_
        refine qm_v (fun xs hx => q_load 1 Try.underlying73 rfl rfl rfl (u32s_atA (by omega))) ?_
        refine qm_v (fun xs hx => q_xor_u32 rfl rfl) ?_
        refine qm_a (fun xs hx => q_litA (cs := u32s [_]) Try.underlying71 in73 (by decide) rfl rfl rfl rfl (by exact one_all rfl) rfl) ?_
        refine qm_end ?_
        intro xs hx
        obtain ⟨⟨b206, e206⟩, _⟩ := hx
        simp only [e206]
        simp only [resT, nRow, nBlk, nRowT, tupAt_0, List.append_assoc, List.nil_append, List.append_nil, List.cons_append, List.singleton_append, e206]
        refine VL.keep (Sub.cons (s := 0) rfl (Sub.cons (s := 9) rfl (Sub.cons (s := 15) rfl (Sub.cons (s := 16) rfl (Sub.cons (s := 187) rfl (Sub.cons (s := 190) rfl (Sub.cons (s := 206) rfl (Sub.nil _)))))))) ?_
        refine l_append 1 rfl rfl rfl Try.underlying71 Try.underlying71 in73 rfl (by decide) (Reads.row 0 rfl) (by rfl) (by with_reducible first | exact bys_one _ | exact u32s_one _ | exact u64s_one _ | exact i64s_one _ | exact n64s_one _ | assumption) (by omega) (by omega) rfl ?_
        intro A207 c207 hc207
        simp only [List.set_cons_zero, List.set_cons_succ, ← bys_append, ← u32s_append, ← u64s_append, ← i64s_append, List.nil_append, Nat.zero_add]
        refine vl_v (q_assign rfl) rfl ?_
        refine vl_nil ?_
        refine (qn_n (bl_n (th_n ?_)))
        refine VC_region ?_
        refine vl_v (q_move rfl) rfl ?_
        refine vl_v (q_add_n (q := 1) rfl rfl (by omega)) rfl ?_
        refine vl_v (q_assign rfl) rfl ?_
        refine vl_nil ?_
        refine (th_n ?_)
        refine ⟨(z + 1, A207, c207), by simp only; omega, by simp only; omega, (Sub.cons (s := 0) rfl (Sub.cons (s := 9) rfl (Sub.cons (s := 15) rfl (Sub.cons (s := 16) rfl (Sub.nil _))))), fun w H => St.pick H (ks := [1, 2]) (by decide) rfl⟩
      · skip
        have ht187 := of_decide_eq_false ht187
        simp only at ht187
        obtain rfl : z = 8 := by omega
        refine VC_exit ?_
        refine (th_x (th_x (bl_xs (th_n ?_))))
        refine VC_seq ?_
        refine VC_region ?_
        refine vl_v (q_move rfl) rfl ?_
        refine vl_v (q_assign rfl) rfl ?_
        refine vl_nil ?_
        refine (th_n ?_)
        refine VC_ret ?_
        refine ⟨_, res1 rfl rfl, ?_⟩
        exact ⟨_, _, rfl, by rw [into, ← hve, ← rwW_words, ← hme, rxor_all h _ hh]⟩
end Go.Proofs.Ytabmfndiepmcgaa
end
section
namespace Go.Proofs.Ytabmfndiepmcgaa
open Go.RowKit Go.PBYtabmfndiepmcgaa
set_option linter.unusedVariables false
set_option linter.unusedSimpArgs false
set_option maxRecDepth 10000
set_option maxHeartbeats 4000000 in
theorem rinto_false (h : List UInt32) (blk : List UInt8) (n : Nat) (Ah Ab : Option Addr) (ch cb : Nat) (hh : h.length = 8) (hb : blk.length = 64) (hch : 8 ≤ ch) (hcb : 64 ≤ cb) (hn : n < 9223372036854775808) (w : World) (hA : SlAt w Ah (u32s h)) (hB : SlAt w Ab (bys blk)) :
    Calls Try.prog 43 #[.slice Ah 8 ch, .slice Ab 64 cb, vN n, .bool false] w fun e w' => ∃ v, e = .returned v ∧ St [] w [.row 73 1 v 8 (u32s (into h blk (UInt64.ofNat n) false))] w' := by
  have htt : (UInt64.ofNat n).toNat = n := by rw [UInt64.toNat_ofNat']; omega
  have hm16 := rwW_length blk 16
  have hv0 := vBeg_length h (UInt64.ofNat n) false
  rw [hh] at hv0
  obtain ⟨v0, hve⟩ : ∃ v, v = vBeg h (UInt64.ofNat n) false := ⟨_, rfl⟩
  rw [← hve] at hv0
  obtain ⟨m16, hme⟩ : ∃ v, v = rwW blk 16 := ⟨_, rfl⟩
  rw [← hme] at hm16
  refine enter (n := 209) (R := fun e L => ∃ v M, e = .returned v ∧ L = .row 73 1 v 8 (u32s (into h blk (UInt64.ofNat n) false)) :: M) [.slice Ah 8 ch, .slice Ab 64 cb, vN n, .bool false] Try.func43 rfl rfl rfl (St.refl w) ?_ endRow
  refine VC_seq ?_
  refine VC_region ?_
  refine vl_v (q_assign rfl) rfl ?_
  refine vl_nil ?_
  refine (th_n ?_)
  refine VC_seq ?_
  refine VC_region ?_
  refine l_litA (cs := u32s []) Try.underlying71 in73 (by decide) rfl rfl rfl rfl (by exact one_all rfl) rfl rfl ?_
  intro b17
  refine vl_v (q_move rfl) rfl ?_
  refine l_append 0 rfl rfl rfl Try.underlying71 Try.underlying71 in73 rfl (by decide) (Reads.old hA) (by simp only [u32s_length, i64s_length, List.length_append]; omega) (by with_reducible first | exact bys_one _ | exact u32s_one _ | exact u64s_one _ | exact i64s_one _ | exact n64s_one _ | assumption) (by omega) (by omega) rfl ?_
  intro A19 c19 hc19
  simp only [List.set_cons_zero, List.set_cons_succ, ← bys_append, ← u32s_append, ← u64s_append, ← i64s_append, List.nil_append, Nat.zero_add]
  refine l_callR Try.func41 rfl rfl rfl (fun w1 H1 => rfirst_calls w1) rfl ?_
  intro A20 c20 hc20 hm20
  refine l_append 1 rfl rfl rfl Try.underlying71 Try.underlying71 in73 rfl (by decide) (Reads.row 0 rfl) (by rfl) (by with_reducible first | exact bys_one _ | exact u32s_one _ | exact u64s_one _ | exact i64s_one _ | exact n64s_one _ | assumption) (by omega) (by omega) rfl ?_
  intro A21 c21 hc21
  simp only [List.set_cons_zero, List.set_cons_succ, ← bys_append, ← u32s_append, ← u64s_append, ← i64s_append, List.nil_append, Nat.zero_add]
  refine vl_v (q_assign rfl) rfl ?_
  refine vl_nil ?_
  refine (th_n ?_)
  refine VC_seq ?_
  refine VC_pickL (ks := [1]) (by decide) rfl ?_
  refine VC_rowBlk (by omega) ?_
  intro bW more eW
  subst eW
  have hhiv : (h ++ iv).length = 16 := by rw [List.length_append, hh]; rfl
  refine VC_region ?_
  refine vl_v (q_move rfl) rfl ?_
  refine vl_v (q_move rfl) rfl ?_
  refine vl_v (q_idxS0 (m := 12) Try.underlying71 sz73 rfl rfl (by omega) (by rw [Nat.mul_one, Nat.zero_add])) rfl ?_
  refine vl_v (q_load 0 Try.underlying73 rfl rfl rfl (u32s_atA (by omega))) rfl ?_
  refine vl_v (q_move rfl) rfl ?_
  refine vl_v (q_conv_k (r := ((UInt32.ofNat (UInt64.ofNat n).toNat).toNat : Int)) Try.underlying3 Try.underlying73 rfl (by rw [htt, IntKind.wrap_u32, UInt32.toNat_ofNat']; omega)) rfl ?_
  refine vl_v (q_xor_u32 rfl rfl) rfl ?_
  refine vl_v (q_idxS0 (m := 12) Try.underlying71 sz73 rfl rfl (by omega) (by rw [Nat.mul_one, Nat.zero_add])) rfl ?_
  refine l_stU32A 0 rfl rfl rfl sz73 (by omega) ?_
  simp only [List.set_cons_zero, List.set_cons_succ]
  refine vl_nil ?_
  refine (th_n ?_)
  refine VC_seq ?_
  refine VC_region ?_
  refine vl_v (q_move rfl) rfl ?_
  refine vl_v (q_move rfl) rfl ?_
  refine vl_v (q_idxS0 (m := 13) Try.underlying71 sz73 rfl rfl (by omega) (by rw [Nat.mul_one, Nat.zero_add])) rfl ?_
  refine vl_v (q_load 0 Try.underlying73 rfl rfl rfl (u32s_atA (by simp only [List.length_set, u32s_length, *] <;> first | done | omega))) rfl ?_
  refine vl_v (q_move rfl) rfl ?_
  refine vl_v (q_conv_k (r := ((UInt64.ofNat n).toNat : Int)) Try.underlying3 Try.underlying62 rfl (by rw [htt, IntKind.wrap_u64]; omega)) rfl ?_
  refine vl_v (q_as (v := vU64 (UInt64.ofNat ((UInt64.ofNat n).toNat / 2 ^ 32))) (q_shr_u64 (p := UInt64.ofNat n) (m := 32) rfl rfl) rfl) rfl ?_
  refine vl_v (q_conv_k (r := ((UInt32.ofNat ((UInt64.ofNat n).toNat / 2 ^ 32)).toNat : Int)) Try.underlying62 Try.underlying73 rfl (by rw [IntKind.wrap_u32, UInt32.toNat_ofNat', UInt64.toNat_ofNat', htt]; omega)) rfl ?_
  refine vl_v (q_xor_u32 rfl rfl) rfl ?_
  refine vl_v (q_idxS0 (m := 13) Try.underlying71 sz73 rfl rfl (by omega) (by rw [Nat.mul_one, Nat.zero_add])) rfl ?_
  refine l_stU32A 0 rfl rfl rfl sz73 (by simp only [List.length_set, u32s_length, *] <;> first | done | omega) ?_
  simp only [List.set_cons_zero, List.set_cons_succ]
  refine vl_nil ?_
  refine (th_n ?_)
  refine VC_seq ?_
  refine VC_seq ?_
  refine VC_region ?_
  refine vl_v (q_move rfl) rfl ?_
  refine vl_nil ?_
  refine (th_n ?_)
  refine VC_no (rfl) ?_
  refine VC_skip ?_
  refine (th_n ?_)
  refine VC_seq ?_
  refine VC_region ?_
  refine vl_v (q_assign rfl) rfl ?_
  refine vl_nil ?_
  refine (th_n ?_)
  refine VC_seq ?_
  refine VC_seq ?_
  refine VC_nilRow 73 1 ?_
  refine VC_region ?_
  refine vl_v (q_assign rfl) rfl ?_
  refine vl_nil ?_
  refine (th_n ?_)
  refine VC_block ?_
  refine VC_loop (ι := Nat × Option Addr × Nat) (fun q => q.1 ≤ 16) (fun q => [(0, .slice Ah 8 ch), (1, .slice Ab 64 cb), (9, .slice (some ⟨bW, 0, none⟩) 16 c21), (10, .slice q.2.1 q.1 q.2.2), (11, vN q.1)]) (fun q => [.row 73 1 (.slice q.2.1 q.1 q.2.2) q.1 (u32s (rwW blk q.1)), .blk bW 73 (u32s v0 ++ more)]) (fun q => 16 - q.1) (0, none, 0) (by omega) (Sub.cons (s := 0) rfl (Sub.cons (s := 1) rfl (Sub.cons (s := 9) rfl (Sub.cons (s := 10) rfl (Sub.cons (s := 11) rfl (Sub.nil _)))))) (fun w' H => by rw [hve]; exact H) ?_
  rintro ⟨i, B, d⟩ hp
  simp only at hp
  refine VC_seq ?_
  refine VC_seq ?_
  refine VC_region ?_
  refine vl_v (q_move rfl) rfl ?_
  refine vl_v (q_lss_n (q := 16) Try.underlying3 rfl rfl) rfl ?_
  refine vl_nil ?_
  refine (th_n ?_)
  refine VC_cond rfl (fun ht48 => ?_) (fun ht48 => ?_)
  · skip
    have ht48 := of_decide_eq_true ht48
    simp only at ht48
    have hl := rwW_length blk i
    refine VC_skip ?_
    refine (th_n ?_)
    refine VC_seq ?_
    refine VC_block ?_
    refine VC_region ?_
    refine vl_v (q_move rfl) rfl ?_
    refine vl_v (q_move rfl) rfl ?_
    refine vl_v (q_move rfl) rfl ?_
    refine vl_v (q_mul_n (p := 4) rfl rfl (by omega)) rfl ?_
    refine vl_v (q_move rfl) rfl ?_
    refine vl_v (q_mul_n (p := 4) rfl rfl (by omega)) rfl ?_
    refine vl_v (q_add_n (q := 4) rfl rfl (by omega)) rfl ?_
    refine vl_v (q_slcS Try.underlying45 sz5 rfl ⟨_, rfl⟩ ⟨_, rfl⟩ rfl (.inl rfl) (by omega) (by omega) (by omega)) rfl ?_
    refine vl_v (q_callV Try.func59 rfl rfl rfl (fun w1 H1 => rofA blk _ (4 * i) _ _ _ w1 (H1.sl0 hB) (by omega) (by omega) (by omega) (by omega) (by omega))) rfl ?_
    refine vl_v (q_as (v := vU32 (word32 (blk.drop (4 * i)))) (q_conv_nu32 Try.underlying62 Try.underlying73 rfl) rfl) rfl ?_
    refine l_litA (cs := u32s [_]) Try.underlying71 in73 (by decide) rfl rfl rfl rfl (by exact one_all rfl) rfl rfl ?_
    intro b61
    refine l_append 1 rfl rfl rfl Try.underlying71 Try.underlying71 in73 rfl (by decide) (Reads.row 0 rfl) (by rfl) (by with_reducible first | exact bys_one _ | exact u32s_one _ | exact u64s_one _ | exact i64s_one _ | exact n64s_one _ | assumption) (by omega) (by omega) rfl ?_
    intro A62 c62 hc62
    simp only [List.set_cons_zero, List.set_cons_succ, ← bys_append, ← u32s_append, ← u64s_append, ← i64s_append, List.nil_append, Nat.zero_add]
    refine vl_v (q_assign rfl) rfl ?_
    refine vl_nil ?_
    refine (bl_n (th_n ?_))
    refine VC_region ?_
    refine vl_v (q_move rfl) rfl ?_
    refine vl_v (q_add_n (q := 1) rfl rfl (by omega)) rfl ?_
    refine vl_v (q_assign rfl) rfl ?_
    refine vl_nil ?_
    refine (th_n ?_)
    refine ⟨(i + 1, A62, c62), by simp only; omega, by simp only; omega, (Sub.cons (s := 0) rfl (Sub.cons (s := 1) rfl (Sub.cons (s := 9) rfl (Sub.cons (s := 10) rfl (Sub.cons (s := 11) rfl (Sub.nil _)))))), fun w H => St.pick H (ks := [1, 2]) (by decide) rfl⟩
  · skip
    have ht48 := of_decide_eq_false ht48
    simp only at ht48
    obtain rfl : i = 16 := by omega
    rw [← hme]
    refine VC_exit ?_
    refine (th_x (th_x (bl_xs (th_n ?_))))
    refine VC_seq ?_
    refine VC_region ?_
    refine l_call Try.func60 rfl rfl rfl (fun w1 H1 => rrows_more w1 H1) rfl ?_
    rintro v63 L63 ⟨A63, c63, bf, rfl, hc63, rfl⟩
    have hrv := rvals_length bf
    refine vl_v (q_assign rfl) rfl ?_
    refine vl_nil ?_
    refine (th_n ?_)
    refine VC_seq ?_
    refine VC_seq ?_
    refine VC_region ?_
    refine vl_v (q_assign rfl) rfl ?_
    refine vl_nil ?_
    refine (th_n ?_)
    refine VC_block ?_
    refine VC_loop (ι := Nat) (fun r => r ≤ 10) (fun r => [(0, .slice Ah 8 ch), (9, .slice (some ⟨bW, 0, none⟩) 16 c21), (10, .slice B 16 d), (12, .slice A63 10 c63), (13, vN r)]) (fun r => .blk bW 73 (u32s (rndsM v0 m16 r) ++ more) :: .row 73 1 (.slice B 16 d) 16 (u32s m16) :: .row 97 1 (.slice A63 10 c63) 10 (rvals bf) :: rowsR bf) (fun r => 10 - r) 0 (by omega) (Sub.cons (s := 0) rfl (Sub.cons (s := 9) rfl (Sub.cons (s := 10) rfl (Sub.cons (s := 12) rfl (Sub.cons (s := 13) rfl (Sub.nil _)))))) (fun w' H => H.perm (List.Perm.swap _ _ _)) ?_
    rintro r hp
    have hrl := (rndsM_length v0 m16 r).trans hv0
    refine VC_seq ?_
    refine VC_seq ?_
    refine VC_region ?_
    refine vl_v (q_move rfl) rfl ?_
    refine vl_v (q_move rfl) rfl ?_
    refine vl_v (q_lenS Try.underlying95 rfl) rfl ?_
    refine vl_v (q_lss_n Try.underlying3 rfl rfl) rfl ?_
    refine vl_nil ?_
    refine (th_n ?_)
    refine VC_cond rfl (fun ht67 => ?_) (fun ht67 => ?_)
    · skip
      have ht67 := of_decide_eq_true ht67
      have hr9 : r < 10 := by omega
      have hri := rints_length hr9
      have s0 : sg r 0 < 16 := sg_lt hr9 (by decide)
      have s1 : sg r 1 < 16 := sg_lt hr9 (by decide)
      have s2 : sg r 2 < 16 := sg_lt hr9 (by decide)
      have s3 : sg r 3 < 16 := sg_lt hr9 (by decide)
      have s4 : sg r 4 < 16 := sg_lt hr9 (by decide)
      have s5 : sg r 5 < 16 := sg_lt hr9 (by decide)
      have s6 : sg r 6 < 16 := sg_lt hr9 (by decide)
      have s7 : sg r 7 < 16 := sg_lt hr9 (by decide)
      have s8 : sg r 8 < 16 := sg_lt hr9 (by decide)
      have s9 : sg r 9 < 16 := sg_lt hr9 (by decide)
      have s10 : sg r 10 < 16 := sg_lt hr9 (by decide)
      have s11 : sg r 11 < 16 := sg_lt hr9 (by decide)
      have s12 : sg r 12 < 16 := sg_lt hr9 (by decide)
      have s13 : sg r 13 < 16 := sg_lt hr9 (by decide)
      have s14 : sg r 14 < 16 := sg_lt hr9 (by decide)
      have s15 : sg r 15 < 16 := sg_lt hr9 (by decide)
      refine VC_skip ?_
      refine (th_n ?_)
      refine VC_seq ?_
      refine VC_block ?_
      refine VC_seq ?_
      refine VC_region ?_
      refine vl_v (q_move rfl) rfl ?_
      refine vl_v (q_move rfl) rfl ?_
      refine vl_v (q_idxRd Try.underlying95 sz97 rfl rfl (by omega) (Reads.row 2 rfl) (by omega)) rfl ?_
      refine vl_v (q_loadRd rfl rfl rfl (Reads.row 2 rfl) (rvals_at bf r (by omega))) rfl ?_
      refine vl_v (q_assign rfl) rfl ?_
      refine vl_nil ?_
      refine (th_n ?_)
      refine VC_seq ?_
      refine VC_drawV 13 [[], [], [], [2], [3], [1, 4], [5], [], [], [8], [9], [7, 10], [11], [0, 6, 12]] [[], [], [], [2], [2, 3], [1, 2, 3, 4], [1, 2, 3, 4, 5], [], [], [8], [8, 9], [7, 8, 9, 10], [7, 8, 9, 10, 11], [0, 1, 2, 3, 4, 5, 6, 7, 8, 9, 10, 11, 12]] rfl (by kernel_rfl) ?_
      refine qv_v (q_move rfl) ?_
      refine qv_v (q_move rfl) ?_
      refine qv_v (q_move rfl) ?_
      refine qv_v (q_idxRd (m := 0) Try.underlying97 sz3 rfl rfl (by omega) (rowsRd bf r (by omega) _ _ _) (by simp only [u32s_length, i64s_length, List.length_append]; omega)) ?_
      refine qv_v (q_loadRd rfl rfl rfl (rowsRd bf r (by omega) _ _ _) (rints_at (j := 0) hr9 (by decide))) ?_
      refine qv_v (q_idxRd Try.underlying71 sz73 rfl rfl (by omega) (Reads.row 1 rfl) (by simp only [u32s_length, i64s_length, List.length_append]; omega)) ?_
      refine qv_v (q_loadRd Try.underlying73 rfl rfl (Reads.row 1 rfl) (u32s_at (by omega))) ?_
      refine qv_v (q_move rfl) ?_
      refine qv_v (q_move rfl) ?_
      refine qv_v (q_idxRd (m := 1) Try.underlying97 sz3 rfl rfl (by omega) (rowsRd bf r (by omega) _ _ _) (by simp only [u32s_length, i64s_length, List.length_append]; omega)) ?_
      refine qv_v (q_loadRd rfl rfl rfl (rowsRd bf r (by omega) _ _ _) (rints_at (j := 1) hr9 (by decide))) ?_
      refine qv_v (q_idxRd Try.underlying71 sz73 rfl rfl (by omega) (Reads.row 1 rfl) (by simp only [u32s_length, i64s_length, List.length_append]; omega)) ?_
      refine qv_v (q_loadRd Try.underlying73 rfl rfl (Reads.row 1 rfl) (u32s_at (by omega))) ?_
      refine qv_end ?_
      refine VL.keep (Sub.cons (s := 0) rfl (Sub.cons (s := 9) rfl (Sub.cons (s := 10) rfl (Sub.cons (s := 12) rfl (Sub.cons (s := 13) rfl (Sub.cons (s := 67) rfl (Sub.cons (s := 14) rfl (Sub.cons (s := 74) rfl (Sub.cons (s := 80) rfl (Sub.cons (s := 86) rfl (Sub.nil _))))))))))) ?_
      refine l_callE Try.func61 rfl rfl rfl (fun w1 H1 => rmix_calls _ 0 4 8 12 _ _ _ bW (by with_reducible exact hrl) (by decide) (by decide) (by decide) (by decide) w1 H1) rfl ?_
      refine vl_nil ?_
      refine (qn_n (th_n ?_))
      refine VC_seq ?_
      refine VC_drawV 13 [[], [], [], [2], [3], [1, 4], [5], [], [], [8], [9], [7, 10], [11], [0, 6, 12]] [[], [], [], [2], [2, 3], [1, 2, 3, 4], [1, 2, 3, 4, 5], [], [], [8], [8, 9], [7, 8, 9, 10], [7, 8, 9, 10, 11], [0, 1, 2, 3, 4, 5, 6, 7, 8, 9, 10, 11, 12]] rfl (by kernel_rfl) ?_
      refine qv_v (q_move rfl) ?_
      refine qv_v (q_move rfl) ?_
      refine qv_v (q_move rfl) ?_
      refine qv_v (q_idxRd (m := 2) Try.underlying97 sz3 rfl rfl (by omega) (rowsRd bf r (by omega) _ _ _) (by simp only [u32s_length, i64s_length, List.length_append]; omega)) ?_
      refine qv_v (q_loadRd rfl rfl rfl (rowsRd bf r (by omega) _ _ _) (rints_at (j := 2) hr9 (by decide))) ?_
      refine qv_v (q_idxRd Try.underlying71 sz73 rfl rfl (by omega) (Reads.row 1 rfl) (by simp only [u32s_length, i64s_length, List.length_append]; omega)) ?_
      refine qv_v (q_loadRd Try.underlying73 rfl rfl (Reads.row 1 rfl) (u32s_at (by omega))) ?_
      refine qv_v (q_move rfl) ?_
      refine qv_v (q_move rfl) ?_
      refine qv_v (q_idxRd (m := 3) Try.underlying97 sz3 rfl rfl (by omega) (rowsRd bf r (by omega) _ _ _) (by simp only [u32s_length, i64s_length, List.length_append]; omega)) ?_
      refine qv_v (q_loadRd rfl rfl rfl (rowsRd bf r (by omega) _ _ _) (rints_at (j := 3) hr9 (by decide))) ?_
      refine qv_v (q_idxRd Try.underlying71 sz73 rfl rfl (by omega) (Reads.row 1 rfl) (by simp only [u32s_length, i64s_length, List.length_append]; omega)) ?_
      refine qv_v (q_loadRd Try.underlying73 rfl rfl (Reads.row 1 rfl) (u32s_at (by omega))) ?_
      refine qv_end ?_
      refine VL.keep (Sub.cons (s := 0) rfl (Sub.cons (s := 9) rfl (Sub.cons (s := 10) rfl (Sub.cons (s := 12) rfl (Sub.cons (s := 13) rfl (Sub.cons (s := 67) rfl (Sub.cons (s := 14) rfl (Sub.cons (s := 88) rfl (Sub.cons (s := 94) rfl (Sub.cons (s := 100) rfl (Sub.nil _))))))))))) ?_
      refine l_callE Try.func61 rfl rfl rfl (fun w1 H1 => rmix_calls _ 1 5 9 13 _ _ _ bW (by simp only [mixL_length]; exact hrl) (by decide) (by decide) (by decide) (by decide) w1 H1) rfl ?_
      refine vl_nil ?_
      refine (qn_n (th_n ?_))
      refine VC_seq ?_
      refine VC_drawV 13 [[], [], [], [2], [3], [1, 4], [5], [], [], [8], [9], [7, 10], [11], [0, 6, 12]] [[], [], [], [2], [2, 3], [1, 2, 3, 4], [1, 2, 3, 4, 5], [], [], [8], [8, 9], [7, 8, 9, 10], [7, 8, 9, 10, 11], [0, 1, 2, 3, 4, 5, 6, 7, 8, 9, 10, 11, 12]] rfl (by kernel_rfl) ?_
      refine qv_v (q_move rfl) ?_
      refine qv_v (q_move rfl) ?_
      refine qv_v (q_move rfl) ?_
      refine qv_v (q_idxRd (m := 4) Try.underlying97 sz3 rfl rfl (by omega) (rowsRd bf r (by omega) _ _ _) (by simp only [u32s_length, i64s_length, List.length_append]; omega)) ?_
      refine qv_v (q_loadRd rfl rfl rfl (rowsRd bf r (by omega) _ _ _) (rints_at (j := 4) hr9 (by decide))) ?_
      refine qv_v (q_idxRd Try.underlying71 sz73 rfl rfl (by omega) (Reads.row 1 rfl) (by simp only [u32s_length, i64s_length, List.length_append]; omega)) ?_
      refine qv_v (q_loadRd Try.underlying73 rfl rfl (Reads.row 1 rfl) (u32s_at (by omega))) ?_
      refine qv_v (q_move rfl) ?_
      refine qv_v (q_move rfl) ?_
      refine qv_v (q_idxRd (m := 5) Try.underlying97 sz3 rfl rfl (by omega) (rowsRd bf r (by omega) _ _ _) (by simp only [u32s_length, i64s_length, List.length_append]; omega)) ?_
      refine qv_v (q_loadRd rfl rfl rfl (rowsRd bf r (by omega) _ _ _) (rints_at (j := 5) hr9 (by decide))) ?_
      refine qv_v (q_idxRd Try.underlying71 sz73 rfl rfl (by omega) (Reads.row 1 rfl) (by simp only [u32s_length, i64s_length, List.length_append]; omega)) ?_
      refine qv_v (q_loadRd Try.underlying73 rfl rfl (Reads.row 1 rfl) (u32s_at (by omega))) ?_
      refine qv_end ?_
      refine VL.keep (Sub.cons (s := 0) rfl (Sub.cons (s := 9) rfl (Sub.cons (s := 10) rfl (Sub.cons (s := 12) rfl (Sub.cons (s := 13) rfl (Sub.cons (s := 67) rfl (Sub.cons (s := 14) rfl (Sub.cons (s := 102) rfl (Sub.cons (s := 108) rfl (Sub.cons (s := 114) rfl (Sub.nil _))))))))))) ?_
      refine l_callE Try.func61 rfl rfl rfl (fun w1 H1 => rmix_calls _ 2 6 10 14 _ _ _ bW (by simp only [mixL_length]; exact hrl) (by decide) (by decide) (by decide) (by decide) w1 H1) rfl ?_
      refine vl_nil ?_
      refine (qn_n (th_n ?_))
      refine VC_seq ?_
      refine VC_drawV 13 [[], [], [], [2], [3], [1, 4], [5], [], [], [8], [9], [7, 10], [11], [0, 6, 12]] [[], [], [], [2], [2, 3], [1, 2, 3, 4], [1, 2, 3, 4, 5], [], [], [8], [8, 9], [7, 8, 9, 10], [7, 8, 9, 10, 11], [0, 1, 2, 3, 4, 5, 6, 7, 8, 9, 10, 11, 12]] rfl (by kernel_rfl) ?_
      refine qv_v (q_move rfl) ?_
      refine qv_v (q_move rfl) ?_
      refine qv_v (q_move rfl) ?_
      refine qv_v (q_idxRd (m := 6) Try.underlying97 sz3 rfl rfl (by omega) (rowsRd bf r (by omega) _ _ _) (by simp only [u32s_length, i64s_length, List.length_append]; omega)) ?_
      refine qv_v (q_loadRd rfl rfl rfl (rowsRd bf r (by omega) _ _ _) (rints_at (j := 6) hr9 (by decide))) ?_
      refine qv_v (q_idxRd Try.underlying71 sz73 rfl rfl (by omega) (Reads.row 1 rfl) (by simp only [u32s_length, i64s_length, List.length_append]; omega)) ?_
      refine qv_v (q_loadRd Try.underlying73 rfl rfl (Reads.row 1 rfl) (u32s_at (by omega))) ?_
      refine qv_v (q_move rfl) ?_
      refine qv_v (q_move rfl) ?_
      refine qv_v (q_idxRd (m := 7) Try.underlying97 sz3 rfl rfl (by omega) (rowsRd bf r (by omega) _ _ _) (by simp only [u32s_length, i64s_length, List.length_append]; omega)) ?_
      refine qv_v (q_loadRd rfl rfl rfl (rowsRd bf r (by omega) _ _ _) (rints_at (j := 7) hr9 (by decide))) ?_
      refine qv_v (q_idxRd Try.underlying71 sz73 rfl rfl (by omega) (Reads.row 1 rfl) (by simp only [u32s_length, i64s_length, List.length_append]; omega)) ?_
      refine qv_v (q_loadRd Try.underlying73 rfl rfl (Reads.row 1 rfl) (u32s_at (by omega))) ?_
      refine qv_end ?_
      refine VL.keep (Sub.cons (s := 0) rfl (Sub.cons (s := 9) rfl (Sub.cons (s := 10) rfl (Sub.cons (s := 12) rfl (Sub.cons (s := 13) rfl (Sub.cons (s := 67) rfl (Sub.cons (s := 14) rfl (Sub.cons (s := 116) rfl (Sub.cons (s := 122) rfl (Sub.cons (s := 128) rfl (Sub.nil _))))))))))) ?_
      refine l_callE Try.func61 rfl rfl rfl (fun w1 H1 => rmix_calls _ 3 7 11 15 _ _ _ bW (by simp only [mixL_length]; exact hrl) (by decide) (by decide) (by decide) (by decide) w1 H1) rfl ?_
      refine vl_nil ?_
      refine (qn_n (th_n ?_))
      refine VC_seq ?_
      refine VC_drawV 13 [[], [], [], [2], [3], [1, 4], [5], [], [], [8], [9], [7, 10], [11], [0, 6, 12]] [[], [], [], [2], [2, 3], [1, 2, 3, 4], [1, 2, 3, 4, 5], [], [], [8], [8, 9], [7, 8, 9, 10], [7, 8, 9, 10, 11], [0, 1, 2, 3, 4, 5, 6, 7, 8, 9, 10, 11, 12]] rfl (by kernel_rfl) ?_
      refine qv_v (q_move rfl) ?_
      refine qv_v (q_move rfl) ?_
      refine qv_v (q_move rfl) ?_
      refine qv_v (q_idxRd (m := 8) Try.underlying97 sz3 rfl rfl (by omega) (rowsRd bf r (by omega) _ _ _) (by simp only [u32s_length, i64s_length, List.length_append]; omega)) ?_
      refine qv_v (q_loadRd rfl rfl rfl (rowsRd bf r (by omega) _ _ _) (rints_at (j := 8) hr9 (by decide))) ?_
      refine qv_v (q_idxRd Try.underlying71 sz73 rfl rfl (by omega) (Reads.row 1 rfl) (by simp only [u32s_length, i64s_length, List.length_append]; omega)) ?_
      refine qv_v (q_loadRd Try.underlying73 rfl rfl (Reads.row 1 rfl) (u32s_at (by omega))) ?_
      refine qv_v (q_move rfl) ?_
      refine qv_v (q_move rfl) ?_
      refine qv_v (q_idxRd (m := 9) Try.underlying97 sz3 rfl rfl (by omega) (rowsRd bf r (by omega) _ _ _) (by simp only [u32s_length, i64s_length, List.length_append]; omega)) ?_
      refine qv_v (q_loadRd rfl rfl rfl (rowsRd bf r (by omega) _ _ _) (rints_at (j := 9) hr9 (by decide))) ?_
      refine qv_v (q_idxRd Try.underlying71 sz73 rfl rfl (by omega) (Reads.row 1 rfl) (by simp only [u32s_length, i64s_length, List.length_append]; omega)) ?_
      refine qv_v (q_loadRd Try.underlying73 rfl rfl (Reads.row 1 rfl) (u32s_at (by omega))) ?_
      refine qv_end ?_
      refine VL.keep (Sub.cons (s := 0) rfl (Sub.cons (s := 9) rfl (Sub.cons (s := 10) rfl (Sub.cons (s := 12) rfl (Sub.cons (s := 13) rfl (Sub.cons (s := 67) rfl (Sub.cons (s := 14) rfl (Sub.cons (s := 130) rfl (Sub.cons (s := 136) rfl (Sub.cons (s := 142) rfl (Sub.nil _))))))))))) ?_
      refine l_callE Try.func61 rfl rfl rfl (fun w1 H1 => rmix_calls _ 0 5 10 15 _ _ _ bW (by simp only [mixL_length]; exact hrl) (by decide) (by decide) (by decide) (by decide) w1 H1) rfl ?_
      refine vl_nil ?_
      refine (qn_n (th_n ?_))
      refine VC_seq ?_
      refine VC_drawV 13 [[], [], [], [2], [3], [1, 4], [5], [], [], [8], [9], [7, 10], [11], [0, 6, 12]] [[], [], [], [2], [2, 3], [1, 2, 3, 4], [1, 2, 3, 4, 5], [], [], [8], [8, 9], [7, 8, 9, 10], [7, 8, 9, 10, 11], [0, 1, 2, 3, 4, 5, 6, 7, 8, 9, 10, 11, 12]] rfl (by kernel_rfl) ?_
      refine qv_v (q_move rfl) ?_
      refine qv_v (q_move rfl) ?_
      refine qv_v (q_move rfl) ?_
      refine qv_v (q_idxRd (m := 10) Try.underlying97 sz3 rfl rfl (by omega) (rowsRd bf r (by omega) _ _ _) (by simp only [u32s_length, i64s_length, List.length_append]; omega)) ?_
      refine qv_v (q_loadRd rfl rfl rfl (rowsRd bf r (by omega) _ _ _) (rints_at (j := 10) hr9 (by decide))) ?_
      refine qv_v (q_idxRd Try.underlying71 sz73 rfl rfl (by omega) (Reads.row 1 rfl) (by simp only [u32s_length, i64s_length, List.length_append]; omega)) ?_
      refine qv_v (q_loadRd Try.underlying73 rfl rfl (Reads.row 1 rfl) (u32s_at (by omega))) ?_
      refine qv_v (q_move rfl) ?_
      refine qv_v (q_move rfl) ?_
      refine qv_v (q_idxRd (m := 11) Try.underlying97 sz3 rfl rfl (by omega) (rowsRd bf r (by omega) _ _ _) (by simp only [u32s_length, i64s_length, List.length_append]; omega)) ?_
      refine qv_v (q_loadRd rfl rfl rfl (rowsRd bf r (by omega) _ _ _) (rints_at (j := 11) hr9 (by decide))) ?_
      refine qv_v (q_idxRd Try.underlying71 sz73 rfl rfl (by omega) (Reads.row 1 rfl) (by simp only [u32s_length, i64s_length, List.length_append]; omega)) ?_
      refine qv_v (q_loadRd Try.underlying73 rfl rfl (Reads.row 1 rfl) (u32s_at (by omega))) ?_
      refine qv_end ?_
      refine VL.keep (Sub.cons (s := 0) rfl (Sub.cons (s := 9) rfl (Sub.cons (s := 10) rfl (Sub.cons (s := 12) rfl (Sub.cons (s := 13) rfl (Sub.cons (s := 67) rfl (Sub.cons (s := 14) rfl (Sub.cons (s := 144) rfl (Sub.cons (s := 150) rfl (Sub.cons (s := 156) rfl (Sub.nil _))))))))))) ?_
      refine l_callE Try.func61 rfl rfl rfl (fun w1 H1 => rmix_calls _ 1 6 11 12 _ _ _ bW (by simp only [mixL_length]; exact hrl) (by decide) (by decide) (by decide) (by decide) w1 H1) rfl ?_
      refine vl_nil ?_
      refine (qn_n (th_n ?_))
      refine VC_seq ?_
      refine VC_drawV 13 [[], [], [], [2], [3], [1, 4], [5], [], [], [8], [9], [7, 10], [11], [0, 6, 12]] [[], [], [], [2], [2, 3], [1, 2, 3, 4], [1, 2, 3, 4, 5], [], [], [8], [8, 9], [7, 8, 9, 10], [7, 8, 9, 10, 11], [0, 1, 2, 3, 4, 5, 6, 7, 8, 9, 10, 11, 12]] rfl (by kernel_rfl) ?_
      refine qv_v (q_move rfl) ?_
      refine qv_v (q_move rfl) ?_
      refine qv_v (q_move rfl) ?_
      refine qv_v (q_idxRd (m := 12) Try.underlying97 sz3 rfl rfl (by omega) (rowsRd bf r (by omega) _ _ _) (by simp only [u32s_length, i64s_length, List.length_append]; omega)) ?_
      refine qv_v (q_loadRd rfl rfl rfl (rowsRd bf r (by omega) _ _ _) (rints_at (j := 12) hr9 (by decide))) ?_
      refine qv_v (q_idxRd Try.underlying71 sz73 rfl rfl (by omega) (Reads.row 1 rfl) (by simp only [u32s_length, i64s_length, List.length_append]; omega)) ?_
      refine qv_v (q_loadRd Try.underlying73 rfl rfl (Reads.row 1 rfl) (u32s_at (by omega))) ?_
      refine qv_v (q_move rfl) ?_
      refine qv_v (q_move rfl) ?_
      refine qv_v (q_idxRd (m := 13) Try.underlying97 sz3 rfl rfl (by omega) (rowsRd bf r (by omega) _ _ _) (by simp only [u32s_length, i64s_length, List.length_append]; omega)) ?_
      refine qv_v (q_loadRd rfl rfl rfl (rowsRd bf r (by omega) _ _ _) (rints_at (j := 13) hr9 (by decide))) ?_
      refine qv_v (q_idxRd Try.underlying71 sz73 rfl rfl (by omega) (Reads.row 1 rfl) (by simp only [u32s_length, i64s_length, List.length_append]; omega)) ?_
      refine qv_v (q_loadRd Try.underlying73 rfl rfl (Reads.row 1 rfl) (u32s_at (by omega))) ?_
      refine qv_end ?_
      refine VL.keep (Sub.cons (s := 0) rfl (Sub.cons (s := 9) rfl (Sub.cons (s := 10) rfl (Sub.cons (s := 12) rfl (Sub.cons (s := 13) rfl (Sub.cons (s := 67) rfl (Sub.cons (s := 14) rfl (Sub.cons (s := 158) rfl (Sub.cons (s := 164) rfl (Sub.cons (s := 170) rfl (Sub.nil _))))))))))) ?_
      refine l_callE Try.func61 rfl rfl rfl (fun w1 H1 => rmix_calls _ 2 7 8 13 _ _ _ bW (by simp only [mixL_length]; exact hrl) (by decide) (by decide) (by decide) (by decide) w1 H1) rfl ?_
      refine vl_nil ?_
      refine (qn_n (th_n ?_))
      refine VC_drawV 13 [[], [], [], [2], [3], [1, 4], [5], [], [], [8], [9], [7, 10], [11], [0, 6, 12]] [[], [], [], [2], [2, 3], [1, 2, 3, 4], [1, 2, 3, 4, 5], [], [], [8], [8, 9], [7, 8, 9, 10], [7, 8, 9, 10, 11], [0, 1, 2, 3, 4, 5, 6, 7, 8, 9, 10, 11, 12]] rfl (by kernel_rfl) ?_
      refine qv_v (q_move rfl) ?_
      refine qv_v (q_move rfl) ?_
      refine qv_v (q_move rfl) ?_
      refine qv_v (q_idxRd (m := 14) Try.underlying97 sz3 rfl rfl (by omega) (rowsRd bf r (by omega) _ _ _) (by simp only [u32s_length, i64s_length, List.length_append]; omega)) ?_
      refine qv_v (q_loadRd rfl rfl rfl (rowsRd bf r (by omega) _ _ _) (rints_at (j := 14) hr9 (by decide))) ?_
      refine qv_v (q_idxRd Try.underlying71 sz73 rfl rfl (by omega) (Reads.row 1 rfl) (by simp only [u32s_length, i64s_length, List.length_append]; omega)) ?_
      refine qv_v (q_loadRd Try.underlying73 rfl rfl (Reads.row 1 rfl) (u32s_at (by omega))) ?_
      refine qv_v (q_move rfl) ?_
      refine qv_v (q_move rfl) ?_
      refine qv_v (q_idxRd (m := 15) Try.underlying97 sz3 rfl rfl (by omega) (rowsRd bf r (by omega) _ _ _) (by simp only [u32s_length, i64s_length, List.length_append]; omega)) ?_
      refine qv_v (q_loadRd rfl rfl rfl (rowsRd bf r (by omega) _ _ _) (rints_at (j := 15) hr9 (by decide))) ?_
      refine qv_v (q_idxRd Try.underlying71 sz73 rfl rfl (by omega) (Reads.row 1 rfl) (by simp only [u32s_length, i64s_length, List.length_append]; omega)) ?_
      refine qv_v (q_loadRd Try.underlying73 rfl rfl (Reads.row 1 rfl) (u32s_at (by omega))) ?_
      refine qv_end ?_
      refine VL.keep (Sub.cons (s := 0) rfl (Sub.cons (s := 9) rfl (Sub.cons (s := 10) rfl (Sub.cons (s := 12) rfl (Sub.cons (s := 13) rfl (Sub.cons (s := 67) rfl (Sub.cons (s := 14) rfl (Sub.cons (s := 172) rfl (Sub.cons (s := 178) rfl (Sub.cons (s := 184) rfl (Sub.nil _))))))))))) ?_
      refine l_callE Try.func61 rfl rfl rfl (fun w1 H1 => rmix_calls _ 3 4 9 14 _ _ _ bW (by simp only [mixL_length]; exact hrl) (by decide) (by decide) (by decide) (by decide) w1 H1) rfl ?_
      refine vl_nil ?_
      refine (qn_n (bl_n (th_n ?_)))
      refine VC_region ?_
      refine vl_v (q_move rfl) rfl ?_
      refine vl_v (q_add_n (q := 1) rfl rfl (by omega)) rfl ?_
      refine vl_v (q_assign rfl) rfl ?_
      refine vl_nil ?_
      refine (th_n ?_)
      refine ⟨r + 1, by omega, by omega, (Sub.cons (s := 0) rfl (Sub.cons (s := 9) rfl (Sub.cons (s := 10) rfl (Sub.cons (s := 12) rfl (Sub.cons (s := 13) rfl (Sub.nil _)))))), fun w H => H⟩
    · skip
      have ht67 := of_decide_eq_false ht67
      obtain rfl : r = 10 := by omega
      refine VC_exit ?_
      refine (th_x (th_x (bl_xs (th_n ?_))))
      refine VC_seq ?_
      refine VC_region ?_
      refine vl_v (q_assign rfl) rfl ?_
      refine vl_nil ?_
      refine (th_n ?_)
      refine VC_seq ?_
      refine VC_seq ?_
      refine VC_nilRow 73 1 ?_
      refine VC_region ?_
      refine vl_v (q_assign rfl) rfl ?_
      refine vl_nil ?_
      refine (th_n ?_)
      refine VC_block ?_
      refine VC_loop (ι := Nat × Option Addr × Nat) (fun q => q.1 ≤ 8) (fun q => [(0, .slice Ah 8 ch), (9, .slice (some ⟨bW, 0, none⟩) 16 c21), (15, .slice q.2.1 q.1 q.2.2), (16, vN q.1)]) (fun q => [.row 73 1 (.slice q.2.1 q.1 q.2.2) q.1 (u32s (rxor h (rndsM v0 m16 10) q.1)), .blk bW 73 (u32s (rndsM v0 m16 10) ++ more)]) (fun q => 8 - q.1) (0, none, 0) (by omega) (Sub.cons (s := 0) rfl (Sub.cons (s := 9) rfl (Sub.cons (s := 15) rfl (Sub.cons (s := 16) rfl (Sub.nil _))))) (fun w' H => H.pick (ks := [0, 1]) (by decide) rfl) ?_
      rintro ⟨z, X, e⟩ hp
      simp only at hp
      refine VC_seq ?_
      refine VC_seq ?_
      refine VC_region ?_
      refine vl_v (q_move rfl) rfl ?_
      refine vl_v (q_lss_n (q := 8) Try.underlying3 rfl rfl) rfl ?_
      refine vl_nil ?_
      refine (th_n ?_)
      refine VC_cond rfl (fun ht187 => ?_) (fun ht187 => ?_)
      · skip
        have ht187 := of_decide_eq_true ht187
        simp only at ht187
        have hl := rxor_length h (rndsM v0 m16 10) z
        refine VC_skip ?_
        refine (th_n ?_)
        refine VC_seq ?_
        refine VC_block ?_
        refine VC_drawM 17 [[], [], [], [1, 2], [3], [], [], [5, 6], [7], [4, 8], [], [], [11], [10, 12], [13], [9, 14], [15], [0, 16], [17, 0, 1, 2, 3, 4, 5, 6, 7, 8, 9, 10, 11, 12, 13, 14, 15, 16]] [[], [], [], [1, 2], [1, 2, 3], [], [], [5, 6], [5, 6, 7], [1, 2, 3, 4, 5, 6, 7, 8], [], [], [11], [10, 11, 12], [10, 11, 12, 13], [1, 2, 3, 4, 5, 6, 7, 8, 9, 10, 11, 12, 13, 14], [1, 2, 3, 4, 5, 6, 7, 8, 9, 10, 11, 12, 13, 14, 15], [0, 1, 2, 3, 4, 5, 6, 7, 8, 9, 10, 11, 12, 13, 14, 15, 16], [0, 1, 2, 3, 4, 5, 6, 7, 8, 9, 10, 11, 12, 13, 14, 15, 16, 17]] rfl (by kernel_rfl) ?_
        refine qm_v (fun xs hx => q_move rfl) ?_
        refine qm_v (fun xs hx => q_move rfl) ?_
        refine qm_v (fun xs hx => q_move rfl) ?_
        refine qm_v (fun xs hx => q_idxRd Try.underlying71 sz73 rfl rfl (by omega) (Reads.old hA) (by simp only [u32s_length, i64s_length, List.length_append]; omega)) ?_
        refine qm_v (fun xs hx => q_loadRd Try.underlying73 rfl rfl (Reads.old hA) (u32s_at (by omega))) ?_
        refine qm_v (fun xs hx => q_move rfl) ?_
        refine qm_v (fun xs hx => q_move rfl) ?_
        refine qm_v (fun xs hx => q_idxS0 Try.underlying71 sz73 rfl rfl (by omega) (by rw [Nat.mul_one, Nat.zero_add])) ?_
        refine qm_v (fun xs hx => q_load 1 Try.underlying73 rfl rfl rfl (u32s_atA (by omega))) ?_
        refine qm_v (fun xs hx => q_xor_u32 rfl rfl) ?_
        refine qm_v (fun xs hx => q_move rfl) ?_
        refine qm_v (fun xs hx => q_move rfl) ?_
        refine qm_v (fun xs hx => q_add_n (q := 8) rfl rfl (by omega)) ?_
        refine qm_v (fun xs hx => q_idxS0 Try.underlying71 sz73 rfl rfl (by omega) (by rw [Nat.mul_one, Nat.zero_add])) ?_
        refine qm_v (fun xs hx => q_load 1 Try.underlying73 rfl rfl rfl (u32s_atA (by omega))) ?_
        refine qm_v (fun xs hx => q_xor_u32 rfl rfl) ?_
        refine qm_a (fun xs hx => q_litA (cs := u32s [_]) Try.underlying71 in73 (by decide) rfl rfl rfl rfl (by exact one_all rfl) rfl) ?_
        refine qm_end ?_
        intro xs hx
        obtain ⟨⟨b206, e206⟩, _⟩ := hx
        simp only [e206]
        simp only [resT, nRow, nBlk, nRowT, tupAt_0, List.append_assoc, List.nil_append, List.append_nil, List.cons_append, List.singleton_append, e206]
        refine VL.keep (Sub.cons (s := 0) rfl (Sub.cons (s := 9) rfl (Sub.cons (s := 15) rfl (Sub.cons (s := 16) rfl (Sub.cons (s := 187) rfl (Sub.cons (s := 190) rfl (Sub.cons (s := 206) rfl (Sub.nil _)))))))) ?_
        refine l_append 1 rfl rfl rfl Try.underlying71 Try.underlying71 in73 rfl (by decide) (Reads.row 0 rfl) (by rfl) (by with_reducible first | exact bys_one _ | exact u32s_one _ | exact u64s_one _ | exact i64s_one _ | exact n64s_one _ | assumption) (by omega) (by omega) rfl ?_
        intro A207 c207 hc207
        simp only [List.set_cons_zero, List.set_cons_succ, ← bys_append, ← u32s_append, ← u64s_append, ← i64s_append, List.nil_append, Nat.zero_add]
        refine vl_v (q_assign rfl) rfl ?_
        refine vl_nil ?_
        refine (qn_n (bl_n (th_n ?_)))
        refine VC_region ?_
        refine vl_v (q_move rfl) rfl ?_
        refine vl_v (q_add_n (q := 1) rfl rfl (by omega)) rfl ?_
        refine vl_v (q_assign rfl) rfl ?_
        refine vl_nil ?_
        refine (th_n ?_)
        refine ⟨(z + 1, A207, c207), by simp only; omega, by simp only; omega, (Sub.cons (s := 0) rfl (Sub.cons (s := 9) rfl (Sub.cons (s := 15) rfl (Sub.cons (s := 16) rfl (Sub.nil _))))), fun w H => St.pick H (ks := [1, 2]) (by decide) rfl⟩
      · skip
        have ht187 := of_decide_eq_false ht187
        simp only at ht187
        obtain rfl : z = 8 := by omega
        refine VC_exit ?_
        refine (th_x (th_x (bl_xs (th_n ?_))))
        refine VC_seq ?_
        refine VC_region ?_
        refine vl_v (q_move rfl) rfl ?_
        refine vl_v (q_assign rfl) rfl ?_
        refine vl_nil ?_
        refine (th_n ?_)
        refine VC_ret ?_
        refine ⟨_, res1 rfl rfl, ?_⟩
        exact ⟨_, _, rfl, by rw [into, ← hve, ← rwW_words, ← hme, rxor_all h _ hh]⟩
end Go.Proofs.Ytabmfndiepmcgaa
end
section
namespace Go.RowKit
open Go Go.PBYtabmfndiepmcgaa
set_option linter.unusedVariables false
section
variable {P : Program} {n : Nat} {S : List Nat} {w0 : World} {Q : QE} {env : Env} {L : List Res}
/-- a row that is not empty, as the block that it is, and the way back -/
theorem VC_rowBlkM {c : Code} {T : TypeId} {size m : Nat} {A : Option Addr} {cap : Nat} {xs : List Value} (hm : 0 < m) (h : ∀ b more, A = some ⟨b, 0, none⟩ → (∀ ys : List Value, ys.length = xs.length → ∀ w, Res.ok w (.blk b T (ys ++ more)) → Res.ok w (.row T size (.slice (some ⟨b, 0, none⟩) m cap) m ys)) → VC P n S w0 c Q env (.blk b T (xs ++ more) :: L)) : VC P n S w0 c Q env (.row T size (.slice A m cap) m xs :: L) :=
  ⟨fun a w hmo H => by
    obtain ⟨hl, hh⟩ := H.get (k := 0) rfl
    rcases hh with ⟨e, h0⟩ | ⟨b, cap', more, e, h1, h2, h3, h4⟩
    · omega
    · cases e
      exact (h b more rfl (fun ys hy w' H' => ⟨by rw [hy]; exact hl, .inr ⟨b, _, more, rfl, h1, h2, by rw [List.length_append, hy, ← List.length_append]; exact h3, H'⟩⟩)).run a w hmo (H.as (k := 0) (r' := .blk b T (xs ++ more)) rfl h4 rfl)⟩
theorem VC_blkRowM {c : Code} {T : TypeId} {size m b : Nat} {cap : Nat} {ys more : List Value} (hr : ∀ w, Res.ok w (.blk b T (ys ++ more)) → Res.ok w (.row T size (.slice (some ⟨b, 0, none⟩) m cap) m ys)) (h : VC P n S w0 c Q env (.row T size (.slice (some ⟨b, 0, none⟩) m cap) m ys :: L)) : VC P n S w0 c Q env (.blk b T (ys ++ more) :: L) :=
  ⟨fun a w hmo H => h.run a w hmo (H.as (k := 0) (r' := .row T size (.slice (some ⟨b, 0, none⟩) m cap) m ys) rfl (hr w (H.get (k := 0) rfl)) rfl)⟩
end
end Go.RowKit
namespace Go.Proofs.Ytabmfndiepmcgaa
open Go.RowKit Go.PBYtabmfndiepmcgaa
set_option linter.unusedVariables false
set_option linter.unusedSimpArgs false
set_option maxRecDepth 10000
theorem slPart {w : World} {A : Option Addr} {l : List UInt8} (hA : SlAt w A (bys l)) (o m k : Nat) (hm : l.length ≤ m) : SlAt w (PBYtabmfndiepmcgaa.adv A o m 1) (bys ((l.drop o).take k)) := by
  have := (hA.adv (l := o) (m := m) (sz := 1) (by rw [bys_length, Nat.mul_one]; exact hm)).take k
  rwa [Nat.mul_one, bys_drop, bys_take] at this
theorem slRest {w : World} {A : Option Addr} {l : List UInt8} (hA : SlAt w A (bys l)) (o m : Nat) (hm : l.length ≤ m) : SlAt w (PBYtabmfndiepmcgaa.adv A o m 1) (bys (l.drop o)) := by
  have := hA.adv (l := o) (m := m) (sz := 1) (by rw [bys_length, Nat.mul_one]; exact hm)
  rwa [Nat.mul_one, bys_drop] at this
theorem hKey_ref (n : Nat) : iv.set 0 (iv.getD 0 0 ^^^ UInt32.ofNat 16842784 ^^^ UInt32.ofNat n * UInt32.ofNat 256) = hKey n := by
  have e : UInt32.ofNat n * UInt32.ofNat 256 = UInt32.ofNat ((UInt32.ofNat n).toNat * 2 ^ (min 8 32)) := by
    apply UInt32.toNat_inj.1
    simp only [UInt32.toNat_mul, UInt32.toNat_ofNat']
    rfl
  rw [hKey, e, UInt32.xor_assoc]
theorem hOut_step (h : List UInt32) (z : Nat) : hOut h (z + 1) = (hOut h z).set z (UInt8.ofNat (UInt32.ofNat ((h.getD (z / 4) 0).toNat / 2 ^ min (8 * (z % 4)) 32)).toNat) := by rw [hOut, Nat.mul_comm]
theorem rinto_falseL (h : List UInt32) (blk : List UInt8) (n : Nat) (Ah Ab : Option Addr) (ch cb lb : Nat) (hlb : lb = 64) (hh : h.length = 8) (hb : blk.length = 64) (hch : 8 ≤ ch) (hcb : 64 ≤ cb) (hn : n < 9223372036854775808) (w : World) (hA : SlAt w Ah (u32s h)) (hB : SlAt w Ab (bys blk)) :
    Calls Try.prog 43 #[.slice Ah 8 ch, .slice Ab lb cb, vN n, .bool false] w fun e w' => ∃ v, e = .returned v ∧ St [] w [.row 73 1 v 8 (u32s (into h blk (UInt64.ofNat n) false))] w' := by
  subst hlb
  exact rinto_false h blk n Ah Ab ch cb hh hb hch hcb hn w hA hB
set_option maxHeartbeats 2000000 in
theorem rmac_calls (key b : List UInt8) (A B : Option Addr) (ca cb ka : Nat) (hka : ka = key.length) (h0 : 0 < key.length) (hk : key.length ≤ 32) (hb : b.length ≤ 1000000) (w : World) (hA : SlAt w A (bys key)) (hB : SlAt w B (bys b)) (hca : key.length ≤ ca) (hcb : b.length ≤ cb) :
    Calls Try.prog 30 #[.slice A ka ca, .slice B b.length cb] w fun e w' => e = .returned (.tuple #[.agg (bys (macB key b)).toArray, .int .i64 0]) ∧ Kept [] w w' := by
  subst hka
  have hN := allK_length b h0 hk
  have hpk := padB_length (l := key) (by omega)
  obtain ⟨al, hal⟩ : ∃ al, al = allK key b := ⟨_, rfl⟩
  rw [← hal] at hN
  have hal' := hal
  rw [allK_eq b h0] at hal'
  refine enter (n := 76) (R := fun e L => e = .returned (.tuple #[.agg (bys (macB key b)).toArray, .int .i64 0])) [.slice A key.length ca, .slice B b.length cb] Try.func30 rfl rfl rfl (St.refl w) ?_ (fun e w' L' h H => ⟨h, H.kept⟩)
  refine VC_seq ?_
  refine VC_region ?_
  refine l_allocA zr23 rfl ?_
  intro b4
  refine vl_v (q_assign rfl) rfl ?_
  refine vl_nil ?_
  refine (th_n ?_)
  refine VC_seq ?_
  refine VC_seq ?_
  refine VC_region ?_
  refine vl_v (q_move rfl) rfl ?_
  refine vl_v (q_lenS Try.underlying45 rfl) rfl ?_
  refine vl_v (q_gtr_n (q := 32) Try.underlying3 rfl rfl) rfl ?_
  refine vl_nil ?_
  refine (th_n ?_)
  refine VC_cond rfl (fun ht13 => ?_) (fun ht13 => ?_)
  · skip
    have ht13 := of_decide_eq_true ht13
    exfalso; omega
  · skip
    have ht13 := of_decide_eq_false ht13
    refine VC_skip ?_
    refine (th_n ?_)
    refine VC_seq ?_
    refine VC_region ?_
    refine l_callR Try.func41 rfl rfl rfl (fun w1 H1 => rfirst_calls w1) rfl ?_
    intro A15 c15 hc15 hm15
    refine vl_v (q_assign rfl) rfl ?_
    refine vl_nil ?_
    refine (th_n ?_)
    refine VC_seq ?_
    refine VC_rowBlkM (by omega) ?_
    intro bW more eW hback
    have hiv8 : iv.length = 8 := rfl
    subst eW
    refine VC_region ?_
    refine vl_v (q_move rfl) rfl ?_
    refine vl_v (q_move rfl) rfl ?_
    refine vl_v (q_idxS0 (m := 0) Try.underlying71 sz73 rfl rfl (by omega) (by rw [Nat.mul_one, Nat.zero_add])) rfl ?_
    refine vl_v (q_load 0 Try.underlying73 rfl rfl rfl (u32s_atA (by omega))) rfl ?_
    refine vl_v (q_xor_u32 (q := UInt32.ofNat 16842784) rfl rfl) rfl ?_
    refine vl_v (q_move rfl) rfl ?_
    refine vl_v (q_lenS Try.underlying45 rfl) rfl ?_
    refine vl_v (q_as (v := vU32 (UInt32.ofNat key.length)) (q_conv_k (r := ((UInt32.ofNat key.length).toNat : Int)) Try.underlying3 Try.underlying73 rfl (by rw [IntKind.wrap_u32, UInt32.toNat_ofNat']; omega)) rfl) rfl ?_
    refine vl_v (q_as (v := vU32 (UInt32.ofNat key.length * UInt32.ofNat 256)) (q_mul_u32 rfl rfl) rfl) rfl ?_
    refine vl_v (q_xor_u32 rfl rfl) rfl ?_
    refine vl_v (q_idxS0 (m := 0) Try.underlying71 sz73 rfl rfl (by omega) (by rw [Nat.mul_one, Nat.zero_add])) rfl ?_
    refine l_stU32A 0 rfl rfl rfl sz73 (by omega) ?_
    simp only [List.set_cons_zero, List.set_cons_succ]
    refine vl_nil ?_
    refine (th_n ?_)
    refine VC_seq ?_
    rw [hKey_ref]
    refine VC_blkRowM (hback _ (by rw [u32s_length, u32s_length, hKey_length]; rfl)) ?_
    refine VC_region ?_
    refine vl_v (q_assign rfl) rfl ?_
    refine vl_nil ?_
    refine (th_n ?_)
    refine VC_seq ?_
    refine VC_seq ?_
    refine VC_region ?_
    refine vl_v (q_move rfl) rfl ?_
    refine vl_v (q_lenS Try.underlying45 rfl) rfl ?_
    refine vl_v (q_gtr_n (q := 0) Try.underlying3 rfl rfl) rfl ?_
    refine vl_nil ?_
    refine (th_n ?_)
    refine VC_cond rfl (fun ht29 => ?_) (fun ht29 => ?_)
    · skip
      have ht29 := of_decide_eq_true ht29
      refine VC_region ?_
      refine vl_v (q_move rfl) rfl ?_
      refine l_callR Try.func42 rfl rfl rfl (fun w1 H1 => filled_calls key _ _ _ rfl (by omega) w1 (H1.sl0 hA)) rfl ?_
      intro A31 c31 hc31 hm31
      refine vl_v (q_assign rfl) rfl ?_
      refine vl_nil ?_
      refine (th_n ?_)
      refine VC_seq ?_
      refine VC_region ?_
      refine vl_v (q_move rfl) rfl ?_
      refine vl_v (q_move rfl) rfl ?_
      refine l_append 0 rfl rfl rfl Try.underlying45 Try.underlying45 in5 rfl (by decide) (Reads.old hB) (by simp only [zb, zu, zw, zi, za]; omega) (by with_reducible first | exact bys_one _ | exact u32s_one _ | exact u64s_one _ | exact i64s_one _ | exact n64s_one _ | assumption) (by omega) (by omega) rfl ?_
      intro A34 c34 hc34
      simp only [List.set_cons_zero, List.set_cons_succ, ← bys_append, ← u32s_append, ← u64s_append, ← i64s_append, List.nil_append, Nat.zero_add]
      rw [← hal']
      refine vl_v (q_assign rfl) rfl ?_
      refine vl_nil ?_
      refine (th_n ?_)
      refine VC_seq ?_
      refine VC_region ?_
      refine vl_v (q_assign rfl) rfl ?_
      refine vl_nil ?_
      refine (th_n ?_)
      refine VC_seq ?_
      refine VC_block ?_
      refine VC_loop (ι := Nat × Option Addr × Nat) (fun q => 64 * q.1 < al.length ∧ 8 ≤ q.2.2) (fun q => [(4, vP b4 0), (5, .int .i64 0), (6, .slice q.2.1 8 q.2.2), (7, .slice A34 (64 + b.length) c34), (8, vN (64 * q.1))]) (fun q => [.row 73 1 (.slice q.2.1 8 q.2.2) 8 (u32s (hs (hKey key.length) al q.1)), .row 5 1 (.slice A34 (64 + b.length) c34) (64 + b.length) (bys al), .blk b4 23 (bys (List.replicate 32 0))]) (fun q => al.length - 64 * q.1) (0, some ⟨bW, 0, none⟩, c15) (⟨by simp only; omega, hc15⟩) (Sub.cons (s := 4) rfl (Sub.cons (s := 5) rfl (Sub.cons (s := 6) rfl (Sub.cons (s := 7) rfl (Sub.cons (s := 8) rfl (Sub.nil _)))))) (fun w' H => H.pick (ks := [1, 0, 2]) (by decide) rfl) ?_
      rintro ⟨j, X, e⟩ hp
      obtain ⟨hp1, hp2⟩ := hp
      simp only at hp1 hp2
      have hhl := (hs_length (hKey key.length) al j).trans (hKey_length key.length)
      refine VC_seq ?_
      refine VC_seq ?_
      refine VC_region ?_
      refine vl_v (q_move rfl) rfl ?_
      refine vl_v (q_lenS Try.underlying45 rfl) rfl ?_
      refine vl_v (q_move rfl) rfl ?_
      refine vl_v (q_sub_n rfl rfl (by omega) (by omega)) rfl ?_
      refine vl_v (q_gtr_n (q := 64) Try.underlying3 rfl rfl) rfl ?_
      refine vl_nil ?_
      refine (th_n ?_)
      refine VC_cond rfl (fun ht39 => ?_) (fun ht39 => ?_)
      · skip
        have ht39 := of_decide_eq_true ht39
        simp only at ht39
        refine VC_skip ?_
        refine (th_n ?_)
        refine VC_block ?_
        refine VC_seq ?_
        refine VC_region ?_
        refine vl_v (q_move rfl) rfl ?_
        refine vl_v (q_move rfl) rfl ?_
        refine vl_v (q_move rfl) rfl ?_
        refine vl_v (q_move rfl) rfl ?_
        refine vl_v (q_add_n (q := 64) rfl rfl (by omega)) rfl ?_
        refine vl_v (q_slcS Try.underlying45 sz5 rfl ⟨_, rfl⟩ ⟨_, rfl⟩ rfl (.inl rfl) (by omega) (by omega) (by omega)) rfl ?_
        refine vl_v (q_move rfl) rfl ?_
        refine vl_v (q_add_n (q := 64) rfl rfl (by omega)) rfl ?_
        refine l_callR Try.func43 rfl rfl rfl (fun w1 H1 => rinto_falseL (hs (hKey key.length) al j) ((al.drop (64 * j)).take 64) (64 * j + 64) X _ e _ _ (by omega) hhl (by rw [List.length_take, List.length_drop]; omega) hp2 (by omega) (by omega) w1 (Row.sl (H1.get (k := 0) rfl)) (slPart (Row.sl (H1.get (k := 1) rfl)) (64 * j) c34 64 (by omega))) rfl ?_
        intro A48 c48 hc48 hm48
        refine vl_v (q_assign rfl) rfl ?_
        refine vl_nil ?_
        refine (th_n ?_)
        refine VC_region ?_
        refine vl_v (q_move rfl) rfl ?_
        refine vl_v (q_add_n (q := 64) rfl rfl (by omega)) rfl ?_
        refine vl_v (q_assign rfl) rfl ?_
        refine vl_nil ?_
        refine (bl_n (th_n ?_))
        refine ⟨(j + 1, A48, c48), ⟨by simp only; omega, hc48⟩, by simp only; omega, (Sub.cons (s := 4) rfl (Sub.cons (s := 5) rfl (Sub.cons (s := 6) rfl (Sub.cons (s := 7) rfl (Sub.cons (s := 8) rfl (Sub.nil _)))))), fun w' H => H.pick (ks := [0, 2, 3]) (by decide) rfl⟩
      · skip
        have ht39 := of_decide_eq_false ht39
        simp only at ht39
        have hj : j = (al.length - 1) / 64 := by omega
        have hdl : (al.drop (64 * j)).length = 64 + b.length - 64 * j := by rw [List.length_drop]; omega
        refine VC_exit ?_
        refine (th_x (th_x (bl_xs (th_n ?_))))
        refine VC_seq ?_
        refine VC_region ?_
        refine vl_v (q_move rfl) rfl ?_
        refine vl_v (q_move rfl) rfl ?_
        refine vl_v (q_move rfl) rfl ?_
        refine vl_v (q_slcS Try.underlying45 sz5 rfl ⟨_, rfl⟩ rfl rfl (.inl rfl) (by omega) (by omega) (by omega)) rfl ?_
        refine l_callR Try.func42 rfl rfl rfl (fun w1 H1 => filled_calls (al.drop (64 * j)) _ _ _ hdl.symm (by omega) w1 (slRest (Row.sl (H1.get (k := 1) rfl)) (64 * j) c34 (by omega))) rfl ?_
        intro A55 c55 hc55 hm55
        refine vl_v (q_move rfl) rfl ?_
        refine vl_v (q_lenS Try.underlying45 rfl) rfl ?_
        refine l_callR Try.func43 rfl rfl rfl (fun w1 H1 => rinto_true (hs (hKey key.length) al j) (padB (al.drop (64 * j))) (64 + b.length) X A55 e c55 hhl (padB_length (by omega)) hp2 hc55 (by omega) w1 (Row.sl (H1.get (k := 1) rfl)) (Row.sl (H1.get (k := 0) rfl))) rfl ?_
        intro A58 c58 hc58 hm58
        refine vl_v (q_assign rfl) rfl ?_
        refine vl_nil ?_
        refine (th_n ?_)
        refine VC_seq ?_
        refine VC_region ?_
        rw [show into (hs (hKey key.length) al j) (padB (al.drop (64 * j))) (UInt64.ofNat (64 + b.length)) true = hEnd (hKey key.length) al by rw [hEnd, ← hj, hN]]
        have hel := (hEnd_length (hKey key.length) al).trans (hKey_length key.length)
        refine l_allocA zr23 rfl ?_
        intro b9
        refine vl_nil ?_
        refine (th_n ?_)
        refine VC_seq ?_
        refine VC_seq ?_
        refine VC_region ?_
        refine vl_v (q_assign rfl) rfl ?_
        refine vl_nil ?_
        refine (th_n ?_)
        refine VC_block ?_
        refine VC_loop (ι := Nat) (fun z => z ≤ 32) (fun z => [(4, vP b4 0), (6, .slice A58 8 c58), (9, vP b9 0), (10, vN z)]) (fun z => [.blk b9 23 (bys (hOut (hEnd (hKey key.length) al) z)), .row 73 1 (.slice A58 8 c58) 8 (u32s (hEnd (hKey key.length) al)), .blk b4 23 (bys (List.replicate 32 0))]) (fun z => 32 - z) 0 (by omega) (Sub.cons (s := 4) rfl (Sub.cons (s := 6) rfl (Sub.cons (s := 9) rfl (Sub.cons (s := 10) rfl (Sub.nil _))))) (fun w' H => H.pick (ks := [0, 1, 5]) (by decide) rfl) ?_
        rintro z hp
        have hol := hOut_length (hEnd (hKey key.length) al) z
        refine VC_seq ?_
        refine VC_seq ?_
        refine VC_region ?_
        refine vl_v (q_move rfl) rfl ?_
        refine vl_v (q_lss_n (q := 32) Try.underlying3 rfl rfl) rfl ?_
        refine vl_nil ?_
        refine (th_n ?_)
        refine VC_cond rfl (fun ht60 => ?_) (fun ht60 => ?_)
        · skip
          have ht60 := of_decide_eq_true ht60
          refine VC_skip ?_
          refine (th_n ?_)
          refine VC_seq ?_
          refine VC_block ?_
          refine VC_region ?_
          refine vl_v (q_move rfl) rfl ?_
          refine vl_v (q_move rfl) rfl ?_
          refine vl_v (q_move rfl) rfl ?_
          refine vl_v (q_quo_n (q := 4) rfl rfl (by omega) (by omega)) rfl ?_
          refine vl_v (q_idxRd Try.underlying71 sz73 rfl rfl (by omega) (Reads.row 1 rfl) (by simp only [zb, zu, zw, zi, za]; omega)) rfl ?_
          refine vl_v (q_loadRd Try.underlying73 rfl rfl (Reads.row 1 rfl) (u32s_at (by omega))) rfl ?_
          refine vl_v (q_move rfl) rfl ?_
          refine vl_v (q_rem_n (q := 4) rfl rfl (by omega)) rfl ?_
          refine vl_v (q_mul_n (p := 8) rfl rfl (by omega)) rfl ?_
          refine vl_v (q_shr_u32 rfl rfl) rfl ?_
          refine vl_v (q_conv_nu8 Try.underlying73 Try.underlying5 rfl) rfl ?_
          refine vl_v (q_idxA Try.underlying23 sz5 rfl rfl (by omega) (r := _) (by rw [Nat.mul_one, Nat.zero_add])) rfl ?_
          refine l_stB 0 rfl rfl rfl sz5 (by omega) ?_
          simp only [List.set_cons_zero, List.set_cons_succ]
          refine vl_nil ?_
          refine (bl_n (th_n ?_))
          refine VC_region ?_
          refine vl_v (q_move rfl) rfl ?_
          refine vl_v (q_add_n (q := 1) rfl rfl (by omega)) rfl ?_
          refine vl_v (q_assign rfl) rfl ?_
          refine vl_nil ?_
          refine (th_n ?_)
          refine ⟨z + 1, by omega, by omega, (Sub.cons (s := 4) rfl (Sub.cons (s := 6) rfl (Sub.cons (s := 9) rfl (Sub.cons (s := 10) rfl (Sub.nil _))))), fun w' H => by rw [hOut_step]; exact H⟩
        · skip
          have ht60 := of_decide_eq_false ht60
          obtain rfl : z = 32 := by omega
          rw [show hOut (hEnd (hKey key.length) al) 32 = macB key b by rw [macB, ← hal]]
          have hml := macB_length key b
          refine VC_exit ?_
          refine (th_x (th_x (bl_xs (th_n ?_))))
          refine VC_seq ?_
          refine VC_region ?_
          refine vl_v (q_loads 0 Try.underlying23 rfl rfl rfl sz23 (by simp only [zb, zu, zw, zi, za]; omega)) rfl ?_
          refine l_storeA 2 rfl rfl rfl sz23 (by simp only [zb, zu, zw, zi, za]; omega) (by with_reducible first | exact bys_one _ | exact u32s_one _ | exact u64s_one _ | exact i64s_one _ | exact n64s_one _ | assumption) (by simp only [zs, zr, zm, za, zb, zu, zw, zi, zt, zd, zc, zn, *] <;> first | done | omega) ?_
          simp only [List.set_cons_zero, List.set_cons_succ]
          refine vl_v (q_assign rfl) rfl ?_
          refine vl_nil ?_
          refine (th_n ?_)
          refine VC_ret ?_
          refine ⟨_, resC2 2 rfl Try.underlying23 rfl rfl rfl sz23 (by simp only [zb, zu, zw, zi, za]; omega) rfl, ?_⟩
          exact rfl
    · skip
      have ht29 := of_decide_eq_false ht29
      exfalso; omega
end Go.Proofs.Ytabmfndiepmcgaa
end
section
namespace Go.Proofs.Ytabmfndiepmcgaa
open Go.RowKit Go.PBYtabmfndiepmcgaa
set_option linter.unusedVariables false
set_option linter.unusedSimpArgs false
set_option maxRecDepth 10000
set_option maxHeartbeats 2000000 in
theorem rmac0_pos (b : List UInt8) (B : Option Addr) (cb : Nat) (hb0 : 0 < b.length) (hb : b.length ≤ 1000000) (w : World) (hB : SlAt w B (bys b)) (hcb : b.length ≤ cb) :
    Calls Try.prog 30 #[.slice none 0 0, .slice B b.length cb] w fun e w' => e = .returned (.tuple #[.agg (bys (macB [] b)).toArray, .int .i64 0]) ∧ Kept [] w w' := by
  have hk0 : (hKey 0).length = 8 := hKey_length 0
  refine enter (n := 76) (R := fun e L => e = .returned (.tuple #[.agg (bys (macB [] b)).toArray, .int .i64 0])) [.slice none 0 0, .slice B b.length cb] Try.func30 rfl rfl rfl (St.refl w) ?_ (fun e w' L' h H => ⟨h, H.kept⟩)
  refine VC_seq ?_
  refine VC_region ?_
  refine l_allocA zr23 rfl ?_
  intro b4
  refine vl_v (q_assign rfl) rfl ?_
  refine vl_nil ?_
  refine (th_n ?_)
  refine VC_seq ?_
  refine VC_seq ?_
  refine VC_region ?_
  refine vl_v (q_move rfl) rfl ?_
  refine vl_v (q_lenS Try.underlying45 rfl) rfl ?_
  refine vl_v (q_gtr_n (q := 32) Try.underlying3 rfl rfl) rfl ?_
  refine vl_nil ?_
  refine (th_n ?_)
  refine VC_cond rfl (fun ht13 => ?_) (fun ht13 => ?_)
  · skip
    have ht13 := of_decide_eq_true ht13
    exfalso; omega
  · skip
    have ht13 := of_decide_eq_false ht13
    refine VC_skip ?_
    refine (th_n ?_)
    refine VC_seq ?_
    refine VC_region ?_
    refine l_callR Try.func41 rfl rfl rfl (fun w1 H1 => rfirst_calls w1) rfl ?_
    intro A15 c15 hc15 hm15
    refine vl_v (q_assign rfl) rfl ?_
    refine vl_nil ?_
    refine (th_n ?_)
    refine VC_seq ?_
    refine VC_rowBlkM (by omega) ?_
    intro bW more eW hback
    have hiv8 : iv.length = 8 := rfl
    subst eW
    refine VC_region ?_
    refine vl_v (q_move rfl) rfl ?_
    refine vl_v (q_move rfl) rfl ?_
    refine vl_v (q_idxS0 (m := 0) Try.underlying71 sz73 rfl rfl (by omega) (by rw [Nat.mul_one, Nat.zero_add])) rfl ?_
    refine vl_v (q_load 0 Try.underlying73 rfl rfl rfl (u32s_atA (by omega))) rfl ?_
    refine vl_v (q_xor_u32 (q := UInt32.ofNat 16842784) rfl rfl) rfl ?_
    refine vl_v (q_move rfl) rfl ?_
    refine vl_v (q_lenS Try.underlying45 rfl) rfl ?_
    refine vl_v (q_as (v := vU32 (UInt32.ofNat 0)) (q_conv_k (r := ((UInt32.ofNat 0).toNat : Int)) Try.underlying3 Try.underlying73 rfl (by rw [IntKind.wrap_u32, UInt32.toNat_ofNat']; omega)) rfl) rfl ?_
    refine vl_v (q_as (v := vU32 (UInt32.ofNat 0 * UInt32.ofNat 256)) (q_mul_u32 rfl rfl) rfl) rfl ?_
    refine vl_v (q_xor_u32 rfl rfl) rfl ?_
    refine vl_v (q_idxS0 (m := 0) Try.underlying71 sz73 rfl rfl (by omega) (by rw [Nat.mul_one, Nat.zero_add])) rfl ?_
    refine l_stU32A 0 rfl rfl rfl sz73 (by omega) ?_
    simp only [List.set_cons_zero, List.set_cons_succ]
    refine vl_nil ?_
    refine (th_n ?_)
    refine VC_seq ?_
    rw [hKey_ref]
    refine VC_blkRowM (hback _ (by rw [u32s_length, u32s_length, hKey_length]; rfl)) ?_
    refine VC_region ?_
    refine vl_v (q_assign rfl) rfl ?_
    refine vl_nil ?_
    refine (th_n ?_)
    refine VC_seq ?_
    refine VC_seq ?_
    refine VC_region ?_
    refine vl_v (q_move rfl) rfl ?_
    refine vl_v (q_lenS Try.underlying45 rfl) rfl ?_
    refine vl_v (q_gtr_n (q := 0) Try.underlying3 rfl rfl) rfl ?_
    refine vl_nil ?_
    refine (th_n ?_)
    refine VC_cond rfl (fun ht29 => ?_) (fun ht29 => ?_)
    · skip
      have ht29 := of_decide_eq_true ht29
      exfalso; omega
    · skip
      have ht29 := of_decide_eq_false ht29
      refine VC_skip ?_
      refine (th_n ?_)
      refine VC_seq ?_
      refine VC_nilRow 5 1 ?_
      refine VC_region ?_
      refine vl_v (q_move rfl) rfl ?_
      refine vl_v (q_move rfl) rfl ?_
      refine l_append 0 rfl rfl rfl Try.underlying45 Try.underlying45 in5 rfl (by decide) (Reads.old hB) (by simp only [zb, zu, zw, zi, za]; omega) (by with_reducible first | exact bys_one _ | exact u32s_one _ | exact u64s_one _ | exact i64s_one _ | exact n64s_one _ | assumption) (by omega) (by omega) rfl ?_
      intro A34 c34 hc34
      simp only [List.set_cons_zero, List.set_cons_succ, ← bys_append, ← u32s_append, ← u64s_append, ← i64s_append, List.nil_append, Nat.zero_add]
      refine vl_v (q_assign rfl) rfl ?_
      refine vl_nil ?_
      refine (th_n ?_)
      refine VC_seq ?_
      refine VC_region ?_
      refine vl_v (q_assign rfl) rfl ?_
      refine vl_nil ?_
      refine (th_n ?_)
      refine VC_seq ?_
      refine VC_block ?_
      refine VC_loop (ι := Nat × Option Addr × Nat) (fun q => 64 * q.1 < b.length ∧ 8 ≤ q.2.2) (fun q => [(4, vP b4 0), (5, .int .i64 0), (6, .slice q.2.1 8 q.2.2), (7, .slice A34 (b.length) c34), (8, vN (64 * q.1))]) (fun q => [.row 73 1 (.slice q.2.1 8 q.2.2) 8 (u32s (hs (hKey 0) b q.1)), .row 5 1 (.slice A34 (b.length) c34) (b.length) (bys b), .blk b4 23 (bys (List.replicate 32 0))]) (fun q => b.length - 64 * q.1) (0, some ⟨bW, 0, none⟩, c15) (⟨by simp only; omega, hc15⟩) (Sub.cons (s := 4) rfl (Sub.cons (s := 5) rfl (Sub.cons (s := 6) rfl (Sub.cons (s := 7) rfl (Sub.cons (s := 8) rfl (Sub.nil _)))))) (fun w' H => H.pick (ks := [1, 0, 2]) (by decide) rfl) ?_
      rintro ⟨j, X, e⟩ hp
      obtain ⟨hp1, hp2⟩ := hp
      simp only at hp1 hp2
      have hhl := (hs_length (hKey 0) b j).trans (hKey_length 0)
      refine VC_seq ?_
      refine VC_seq ?_
      refine VC_region ?_
      refine vl_v (q_move rfl) rfl ?_
      refine vl_v (q_lenS Try.underlying45 rfl) rfl ?_
      refine vl_v (q_move rfl) rfl ?_
      refine vl_v (q_sub_n rfl rfl (by omega) (by omega)) rfl ?_
      refine vl_v (q_gtr_n (q := 64) Try.underlying3 rfl rfl) rfl ?_
      refine vl_nil ?_
      refine (th_n ?_)
      refine VC_cond rfl (fun ht39 => ?_) (fun ht39 => ?_)
      · skip
        have ht39 := of_decide_eq_true ht39
        simp only at ht39
        refine VC_skip ?_
        refine (th_n ?_)
        refine VC_block ?_
        refine VC_seq ?_
        refine VC_region ?_
        refine vl_v (q_move rfl) rfl ?_
        refine vl_v (q_move rfl) rfl ?_
        refine vl_v (q_move rfl) rfl ?_
        refine vl_v (q_move rfl) rfl ?_
        refine vl_v (q_add_n (q := 64) rfl rfl (by omega)) rfl ?_
        refine vl_v (q_slcS Try.underlying45 sz5 rfl ⟨_, rfl⟩ ⟨_, rfl⟩ rfl (.inl rfl) (by omega) (by omega) (by omega)) rfl ?_
        refine vl_v (q_move rfl) rfl ?_
        refine vl_v (q_add_n (q := 64) rfl rfl (by omega)) rfl ?_
        refine l_callR Try.func43 rfl rfl rfl (fun w1 H1 => rinto_falseL (hs (hKey 0) b j) ((b.drop (64 * j)).take 64) (64 * j + 64) X _ e _ _ (by omega) hhl (by rw [List.length_take, List.length_drop]; omega) hp2 (by omega) (by omega) w1 (Row.sl (H1.get (k := 0) rfl)) (slPart (Row.sl (H1.get (k := 1) rfl)) (64 * j) c34 64 (by omega))) rfl ?_
        intro A48 c48 hc48 hm48
        refine vl_v (q_assign rfl) rfl ?_
        refine vl_nil ?_
        refine (th_n ?_)
        refine VC_region ?_
        refine vl_v (q_move rfl) rfl ?_
        refine vl_v (q_add_n (q := 64) rfl rfl (by omega)) rfl ?_
        refine vl_v (q_assign rfl) rfl ?_
        refine vl_nil ?_
        refine (bl_n (th_n ?_))
        refine ⟨(j + 1, A48, c48), ⟨by simp only; omega, hc48⟩, by simp only; omega, (Sub.cons (s := 4) rfl (Sub.cons (s := 5) rfl (Sub.cons (s := 6) rfl (Sub.cons (s := 7) rfl (Sub.cons (s := 8) rfl (Sub.nil _)))))), fun w' H => H.pick (ks := [0, 2, 3]) (by decide) rfl⟩
      · skip
        have ht39 := of_decide_eq_false ht39
        simp only at ht39
        have hj : j = (b.length - 1) / 64 := by omega
        have hdl : (b.drop (64 * j)).length = b.length - 64 * j := by rw [List.length_drop]
        refine VC_exit ?_
        refine (th_x (th_x (bl_xs (th_n ?_))))
        refine VC_seq ?_
        refine VC_region ?_
        refine vl_v (q_move rfl) rfl ?_
        refine vl_v (q_move rfl) rfl ?_
        refine vl_v (q_move rfl) rfl ?_
        refine vl_v (q_slcS Try.underlying45 sz5 rfl ⟨_, rfl⟩ rfl rfl (.inl rfl) (by omega) (by omega) (by omega)) rfl ?_
        refine l_callR Try.func42 rfl rfl rfl (fun w1 H1 => filled_calls (b.drop (64 * j)) _ _ _ hdl.symm (by omega) w1 (slRest (Row.sl (H1.get (k := 1) rfl)) (64 * j) c34 (by omega))) rfl ?_
        intro A55 c55 hc55 hm55
        refine vl_v (q_move rfl) rfl ?_
        refine vl_v (q_lenS Try.underlying45 rfl) rfl ?_
        refine l_callR Try.func43 rfl rfl rfl (fun w1 H1 => rinto_true (hs (hKey 0) b j) (padB (b.drop (64 * j))) (b.length) X A55 e c55 hhl (padB_length (by omega)) hp2 hc55 (by omega) w1 (Row.sl (H1.get (k := 1) rfl)) (Row.sl (H1.get (k := 0) rfl))) rfl ?_
        intro A58 c58 hc58 hm58
        refine vl_v (q_assign rfl) rfl ?_
        refine vl_nil ?_
        refine (th_n ?_)
        refine VC_seq ?_
        refine VC_region ?_
        rw [show into (hs (hKey 0) b j) (padB (b.drop (64 * j))) (UInt64.ofNat (b.length)) true = hEnd (hKey 0) b by rw [hEnd, ← hj]]
        have hel := (hEnd_length (hKey 0) b).trans (hKey_length 0)
        refine l_allocA zr23 rfl ?_
        intro b9
        refine vl_nil ?_
        refine (th_n ?_)
        refine VC_seq ?_
        refine VC_seq ?_
        refine VC_region ?_
        refine vl_v (q_assign rfl) rfl ?_
        refine vl_nil ?_
        refine (th_n ?_)
        refine VC_block ?_
        refine VC_loop (ι := Nat) (fun z => z ≤ 32) (fun z => [(4, vP b4 0), (6, .slice A58 8 c58), (9, vP b9 0), (10, vN z)]) (fun z => [.blk b9 23 (bys (hOut (hEnd (hKey 0) b) z)), .row 73 1 (.slice A58 8 c58) 8 (u32s (hEnd (hKey 0) b)), .blk b4 23 (bys (List.replicate 32 0))]) (fun z => 32 - z) 0 (by omega) (Sub.cons (s := 4) rfl (Sub.cons (s := 6) rfl (Sub.cons (s := 9) rfl (Sub.cons (s := 10) rfl (Sub.nil _))))) (fun w' H => H.pick (ks := [0, 1, 5]) (by decide) rfl) ?_
        rintro z hp
        have hol := hOut_length (hEnd (hKey 0) b) z
        refine VC_seq ?_
        refine VC_seq ?_
        refine VC_region ?_
        refine vl_v (q_move rfl) rfl ?_
        refine vl_v (q_lss_n (q := 32) Try.underlying3 rfl rfl) rfl ?_
        refine vl_nil ?_
        refine (th_n ?_)
        refine VC_cond rfl (fun ht60 => ?_) (fun ht60 => ?_)
        · skip
          have ht60 := of_decide_eq_true ht60
          refine VC_skip ?_
          refine (th_n ?_)
          refine VC_seq ?_
          refine VC_block ?_
          refine VC_region ?_
          refine vl_v (q_move rfl) rfl ?_
          refine vl_v (q_move rfl) rfl ?_
          refine vl_v (q_move rfl) rfl ?_
          refine vl_v (q_quo_n (q := 4) rfl rfl (by omega) (by omega)) rfl ?_
          refine vl_v (q_idxRd Try.underlying71 sz73 rfl rfl (by omega) (Reads.row 1 rfl) (by simp only [zb, zu, zw, zi, za]; omega)) rfl ?_
          refine vl_v (q_loadRd Try.underlying73 rfl rfl (Reads.row 1 rfl) (u32s_at (by omega))) rfl ?_
          refine vl_v (q_move rfl) rfl ?_
          refine vl_v (q_rem_n (q := 4) rfl rfl (by omega)) rfl ?_
          refine vl_v (q_mul_n (p := 8) rfl rfl (by omega)) rfl ?_
          refine vl_v (q_shr_u32 rfl rfl) rfl ?_
          refine vl_v (q_conv_nu8 Try.underlying73 Try.underlying5 rfl) rfl ?_
          refine vl_v (q_idxA Try.underlying23 sz5 rfl rfl (by omega) (r := _) (by rw [Nat.mul_one, Nat.zero_add])) rfl ?_
          refine l_stB 0 rfl rfl rfl sz5 (by omega) ?_
          simp only [List.set_cons_zero, List.set_cons_succ]
          refine vl_nil ?_
          refine (bl_n (th_n ?_))
          refine VC_region ?_
          refine vl_v (q_move rfl) rfl ?_
          refine vl_v (q_add_n (q := 1) rfl rfl (by omega)) rfl ?_
          refine vl_v (q_assign rfl) rfl ?_
          refine vl_nil ?_
          refine (th_n ?_)
          refine ⟨z + 1, by omega, by omega, (Sub.cons (s := 4) rfl (Sub.cons (s := 6) rfl (Sub.cons (s := 9) rfl (Sub.cons (s := 10) rfl (Sub.nil _))))), fun w' H => by rw [hOut_step]; exact H⟩
        · skip
          have ht60 := of_decide_eq_false ht60
          obtain rfl : z = 32 := by omega
          rw [show hOut (hEnd (hKey 0) b) 32 = macB [] b from rfl]
          have hml := macB_length [] b
          refine VC_exit ?_
          refine (th_x (th_x (bl_xs (th_n ?_))))
          refine VC_seq ?_
          refine VC_region ?_
          refine vl_v (q_loads 0 Try.underlying23 rfl rfl rfl sz23 (by simp only [zb, zu, zw, zi, za]; omega)) rfl ?_
          refine l_storeA 2 rfl rfl rfl sz23 (by simp only [zb, zu, zw, zi, za]; omega) (by with_reducible first | exact bys_one _ | exact u32s_one _ | exact u64s_one _ | exact i64s_one _ | exact n64s_one _ | assumption) (by simp only [zs, zr, zm, za, zb, zu, zw, zi, zt, zd, zc, zn, *] <;> first | done | omega) ?_
          simp only [List.set_cons_zero, List.set_cons_succ]
          refine vl_v (q_assign rfl) rfl ?_
          refine vl_nil ?_
          refine (th_n ?_)
          refine VC_ret ?_
          refine ⟨_, resC2 2 rfl Try.underlying23 rfl rfl rfl sz23 (by simp only [zb, zu, zw, zi, za]; omega) rfl, ?_⟩
          exact rfl
set_option maxHeartbeats 2000000 in
theorem rmac0_nil (b : List UInt8) (B : Option Addr) (cb : Nat) (hb : b.length = 0) (w : World) (hB : SlAt w B (bys b)) (hcb : b.length ≤ cb) :
    Calls Try.prog 30 #[.slice none 0 0, .slice B b.length cb] w fun e w' => e = .returned (.tuple #[.agg (bys (macB [] b)).toArray, .int .i64 0]) ∧ Kept [] w w' := by
  obtain rfl := List.eq_nil_of_length_eq_zero hb
  have hk0 : (hKey 0).length = 8 := hKey_length 0
  refine enter (n := 76) (R := fun e L => e = .returned (.tuple #[.agg (bys (macB [] [])).toArray, .int .i64 0])) [.slice none 0 0, .slice B 0 cb] Try.func30 rfl rfl rfl (St.refl w) ?_ (fun e w' L' h H => ⟨h, H.kept⟩)
  refine VC_seq ?_
  refine VC_region ?_
  refine l_allocA zr23 rfl ?_
  intro b4
  refine vl_v (q_assign rfl) rfl ?_
  refine vl_nil ?_
  refine (th_n ?_)
  refine VC_seq ?_
  refine VC_seq ?_
  refine VC_region ?_
  refine vl_v (q_move rfl) rfl ?_
  refine vl_v (q_lenS Try.underlying45 rfl) rfl ?_
  refine vl_v (q_gtr_n (q := 32) Try.underlying3 rfl rfl) rfl ?_
  refine vl_nil ?_
  refine (th_n ?_)
  refine VC_cond rfl (fun ht13 => ?_) (fun ht13 => ?_)
  · skip
    have ht13 := of_decide_eq_true ht13
    exfalso; omega
  · skip
    have ht13 := of_decide_eq_false ht13
    refine VC_skip ?_
    refine (th_n ?_)
    refine VC_seq ?_
    refine VC_region ?_
    refine l_callR Try.func41 rfl rfl rfl (fun w1 H1 => rfirst_calls w1) rfl ?_
    intro A15 c15 hc15 hm15
    refine vl_v (q_assign rfl) rfl ?_
    refine vl_nil ?_
    refine (th_n ?_)
    refine VC_seq ?_
    refine VC_rowBlkM (by omega) ?_
    intro bW more eW hback
    have hiv8 : iv.length = 8 := rfl
    subst eW
    refine VC_region ?_
    refine vl_v (q_move rfl) rfl ?_
    refine vl_v (q_move rfl) rfl ?_
    refine vl_v (q_idxS0 (m := 0) Try.underlying71 sz73 rfl rfl (by omega) (by rw [Nat.mul_one, Nat.zero_add])) rfl ?_
    refine vl_v (q_load 0 Try.underlying73 rfl rfl rfl (u32s_atA (by omega))) rfl ?_
    refine vl_v (q_xor_u32 (q := UInt32.ofNat 16842784) rfl rfl) rfl ?_
    refine vl_v (q_move rfl) rfl ?_
    refine vl_v (q_lenS Try.underlying45 rfl) rfl ?_
    refine vl_v (q_as (v := vU32 (UInt32.ofNat 0)) (q_conv_k (r := ((UInt32.ofNat 0).toNat : Int)) Try.underlying3 Try.underlying73 rfl (by rw [IntKind.wrap_u32, UInt32.toNat_ofNat']; omega)) rfl) rfl ?_
    refine vl_v (q_as (v := vU32 (UInt32.ofNat 0 * UInt32.ofNat 256)) (q_mul_u32 rfl rfl) rfl) rfl ?_
    refine vl_v (q_xor_u32 rfl rfl) rfl ?_
    refine vl_v (q_idxS0 (m := 0) Try.underlying71 sz73 rfl rfl (by omega) (by rw [Nat.mul_one, Nat.zero_add])) rfl ?_
    refine l_stU32A 0 rfl rfl rfl sz73 (by omega) ?_
    simp only [List.set_cons_zero, List.set_cons_succ]
    refine vl_nil ?_
    refine (th_n ?_)
    refine VC_seq ?_
    rw [hKey_ref]
    refine VC_blkRowM (hback _ (by rw [u32s_length, u32s_length, hKey_length]; rfl)) ?_
    refine VC_region ?_
    refine vl_v (q_assign rfl) rfl ?_
    refine vl_nil ?_
    refine (th_n ?_)
    refine VC_seq ?_
    refine VC_seq ?_
    refine VC_region ?_
    refine vl_v (q_move rfl) rfl ?_
    refine vl_v (q_lenS Try.underlying45 rfl) rfl ?_
    refine vl_v (q_gtr_n (q := 0) Try.underlying3 rfl rfl) rfl ?_
    refine vl_nil ?_
    refine (th_n ?_)
    refine VC_cond rfl (fun ht29 => ?_) (fun ht29 => ?_)
    · skip
      have ht29 := of_decide_eq_true ht29
      exfalso; omega
    · skip
      have ht29 := of_decide_eq_false ht29
      refine VC_skip ?_
      refine (th_n ?_)
      refine VC_seq ?_
      refine VC_nilRow 5 1 ?_
      refine VC_region ?_
      refine vl_v (q_move rfl) rfl ?_
      refine vl_v (q_move rfl) rfl ?_
      refine l_append 0 rfl rfl rfl Try.underlying45 Try.underlying45 in5 rfl (by decide) (Reads.old hB) (by simp only [zb, zu, zw, zi, za]; omega) (by with_reducible first | exact bys_one _ | exact u32s_one _ | exact u64s_one _ | exact i64s_one _ | exact n64s_one _ | assumption) (by omega) (by omega) rfl ?_
      intro A34 c34 hc34
      simp only [List.set_cons_zero, List.set_cons_succ, ← bys_append, ← u32s_append, ← u64s_append, ← i64s_append, List.nil_append, Nat.zero_add]
      refine vl_v (q_assign rfl) rfl ?_
      refine vl_nil ?_
      refine (th_n ?_)
      refine VC_seq ?_
      refine VC_region ?_
      refine vl_v (q_assign rfl) rfl ?_
      refine vl_nil ?_
      refine (th_n ?_)
      refine VC_seq ?_
      refine VC_block ?_
      refine VC_loop (ι := Unit) (fun q => True) (fun q => [(4, vP b4 0), (5, .int .i64 0), (6, .slice (some ⟨bW, 0, none⟩) 8 c15), (7, .slice A34 0 c34), (8, vN 0)]) (fun q => [.row 73 1 (.slice (some ⟨bW, 0, none⟩) 8 c15) 8 (u32s (hKey 0)), .row 5 1 (.slice A34 0 c34) 0 (bys []), .blk b4 23 (bys (List.replicate 32 0))]) (fun q => 0) () (trivial) (Sub.cons (s := 4) rfl (Sub.cons (s := 5) rfl (Sub.cons (s := 6) rfl (Sub.cons (s := 7) rfl (Sub.cons (s := 8) rfl (Sub.nil _)))))) (fun w' H => H.pick (ks := [1, 0, 2]) (by decide) rfl) ?_
      rintro q hp
      refine VC_seq ?_
      refine VC_seq ?_
      refine VC_region ?_
      refine vl_v (q_move rfl) rfl ?_
      refine vl_v (q_lenS Try.underlying45 rfl) rfl ?_
      refine vl_v (q_move rfl) rfl ?_
      refine vl_v (q_sub_n rfl rfl (by omega) (by omega)) rfl ?_
      refine vl_v (q_gtr_n (q := 64) Try.underlying3 rfl rfl) rfl ?_
      refine vl_nil ?_
      refine (th_n ?_)
      refine VC_cond rfl (fun ht39 => ?_) (fun ht39 => ?_)
      · skip
        have ht39 := of_decide_eq_true ht39
        exfalso; omega
      · skip
        have ht39 := of_decide_eq_false ht39
        refine VC_exit ?_
        refine (th_x (th_x (bl_xs (th_n ?_))))
        refine VC_seq ?_
        refine VC_region ?_
        refine vl_v (q_move rfl) rfl ?_
        refine vl_v (q_move rfl) rfl ?_
        refine vl_v (q_move rfl) rfl ?_
        refine vl_v (q_slcS Try.underlying45 sz5 rfl ⟨_, rfl⟩ rfl rfl (.inl rfl) (by omega) (by omega) (by omega)) rfl ?_
        refine l_callR Try.func42 rfl rfl rfl (fun w1 H1 => filled_calls [] _ _ _ rfl (by simp) w1 (SlAt.nil _ _)) rfl ?_
        intro A55 c55 hc55 hm55
        refine vl_v (q_move rfl) rfl ?_
        refine vl_v (q_lenS Try.underlying45 rfl) rfl ?_
        refine l_callR Try.func43 rfl rfl rfl (fun w1 H1 => rinto_true (hKey 0) (padB []) 0 _ A55 c15 c55 hk0 (padB_length (by simp)) hc15 hc55 (by omega) w1 (Row.sl (H1.get (k := 1) rfl)) (Row.sl (H1.get (k := 0) rfl))) rfl ?_
        intro A58 c58 hc58 hm58
        refine vl_v (q_assign rfl) rfl ?_
        refine vl_nil ?_
        refine (th_n ?_)
        refine VC_seq ?_
        refine VC_region ?_
        rw [show into (hKey 0) (padB []) (UInt64.ofNat 0) true = hEnd (hKey 0) [] from rfl]
        have hel := (hEnd_length (hKey 0) []).trans (hKey_length 0)
        refine l_allocA zr23 rfl ?_
        intro b9
        refine vl_nil ?_
        refine (th_n ?_)
        refine VC_seq ?_
        refine VC_seq ?_
        refine VC_region ?_
        refine vl_v (q_assign rfl) rfl ?_
        refine vl_nil ?_
        refine (th_n ?_)
        refine VC_block ?_
        refine VC_loop (ι := Nat) (fun z => z ≤ 32) (fun z => [(4, vP b4 0), (6, .slice A58 8 c58), (9, vP b9 0), (10, vN z)]) (fun z => [.blk b9 23 (bys (hOut (hEnd (hKey 0) []) z)), .row 73 1 (.slice A58 8 c58) 8 (u32s (hEnd (hKey 0) [])), .blk b4 23 (bys (List.replicate 32 0))]) (fun z => 32 - z) 0 (by omega) (Sub.cons (s := 4) rfl (Sub.cons (s := 6) rfl (Sub.cons (s := 9) rfl (Sub.cons (s := 10) rfl (Sub.nil _))))) (fun w' H => H.pick (ks := [0, 1, 5]) (by decide) rfl) ?_
        rintro z hp
        have hol := hOut_length (hEnd (hKey 0) []) z
        refine VC_seq ?_
        refine VC_seq ?_
        refine VC_region ?_
        refine vl_v (q_move rfl) rfl ?_
        refine vl_v (q_lss_n (q := 32) Try.underlying3 rfl rfl) rfl ?_
        refine vl_nil ?_
        refine (th_n ?_)
        refine VC_cond rfl (fun ht60 => ?_) (fun ht60 => ?_)
        · skip
          have ht60 := of_decide_eq_true ht60
          refine VC_skip ?_
          refine (th_n ?_)
          refine VC_seq ?_
          refine VC_block ?_
          refine VC_region ?_
          refine vl_v (q_move rfl) rfl ?_
          refine vl_v (q_move rfl) rfl ?_
          refine vl_v (q_move rfl) rfl ?_
          refine vl_v (q_quo_n (q := 4) rfl rfl (by omega) (by omega)) rfl ?_
          refine vl_v (q_idxRd Try.underlying71 sz73 rfl rfl (by omega) (Reads.row 1 rfl) (by simp only [zb, zu, zw, zi, za]; omega)) rfl ?_
          refine vl_v (q_loadRd Try.underlying73 rfl rfl (Reads.row 1 rfl) (u32s_at (by omega))) rfl ?_
          refine vl_v (q_move rfl) rfl ?_
          refine vl_v (q_rem_n (q := 4) rfl rfl (by omega)) rfl ?_
          refine vl_v (q_mul_n (p := 8) rfl rfl (by omega)) rfl ?_
          refine vl_v (q_shr_u32 rfl rfl) rfl ?_
          refine vl_v (q_conv_nu8 Try.underlying73 Try.underlying5 rfl) rfl ?_
          refine vl_v (q_idxA Try.underlying23 sz5 rfl rfl (by omega) (r := _) (by rw [Nat.mul_one, Nat.zero_add])) rfl ?_
          refine l_stB 0 rfl rfl rfl sz5 (by omega) ?_
          simp only [List.set_cons_zero, List.set_cons_succ]
          refine vl_nil ?_
          refine (bl_n (th_n ?_))
          refine VC_region ?_
          refine vl_v (q_move rfl) rfl ?_
          refine vl_v (q_add_n (q := 1) rfl rfl (by omega)) rfl ?_
          refine vl_v (q_assign rfl) rfl ?_
          refine vl_nil ?_
          refine (th_n ?_)
          refine ⟨z + 1, by omega, by omega, (Sub.cons (s := 4) rfl (Sub.cons (s := 6) rfl (Sub.cons (s := 9) rfl (Sub.cons (s := 10) rfl (Sub.nil _))))), fun w' H => by rw [hOut_step]; exact H⟩
        · skip
          have ht60 := of_decide_eq_false ht60
          obtain rfl : z = 32 := by omega
          rw [show hOut (hEnd (hKey 0) []) 32 = macB [] [] from rfl]
          have hml := macB_length [] []
          refine VC_exit ?_
          refine (th_x (th_x (bl_xs (th_n ?_))))
          refine VC_seq ?_
          refine VC_region ?_
          refine vl_v (q_loads 0 Try.underlying23 rfl rfl rfl sz23 (by simp only [zb, zu, zw, zi, za]; omega)) rfl ?_
          refine l_storeA 2 rfl rfl rfl sz23 (by simp only [zb, zu, zw, zi, za]; omega) (by with_reducible first | exact bys_one _ | exact u32s_one _ | exact u64s_one _ | exact i64s_one _ | exact n64s_one _ | assumption) (by simp only [zs, zr, zm, za, zb, zu, zw, zi, zt, zd, zc, zn, *] <;> first | done | omega) ?_
          simp only [List.set_cons_zero, List.set_cons_succ]
          refine vl_v (q_assign rfl) rfl ?_
          refine vl_nil ?_
          refine (th_n ?_)
          refine VC_ret ?_
          refine ⟨_, resC2 2 rfl Try.underlying23 rfl rfl rfl sz23 (by simp only [zb, zu, zw, zi, za]; omega) rfl, ?_⟩
          exact rfl
theorem rmac0_calls (b : List UInt8) (B : Option Addr) (cb : Nat) (hb : b.length ≤ 1000000) (w : World) (hB : SlAt w B (bys b)) (hcb : b.length ≤ cb) :
    Calls Try.prog 30 #[.slice none 0 0, .slice B b.length cb] w fun e w' => e = .returned (.tuple #[.agg (bys (macB [] b)).toArray, .int .i64 0]) ∧ Kept [] w w' := by
  by_cases h : b.length = 0
  · exact rmac0_nil b B cb h w hB hcb
  · exact rmac0_pos b B cb (by omega) hb w hB hcb
end Go.Proofs.Ytabmfndiepmcgaa
end
section
namespace Go.PBYtabmfndiepmcgaa
open Go Go.RowKit
set_option linter.unusedSimpArgs false
set_option linter.unusedVariables false
theorem ww {x : Nat} (h : x < 18446744073709551616) : IntKind.u64.wrap (x : Int) = (x : Int) := by
  simp only [IntKind.wrap, IntKind.bits, IntKind.signed]
  simp only [Bool.false_and, Bool.false_eq_true, if_false]
  omega
section
variable {P : Program} {n : Nat} {S : List Nat} {w0 : World} {ops : Array Oper} {Q : QE} {rest : List Oper} {d : Tmp} {ty : TypeId} {pos : String} {af : Array Edge} {g : Option (Nat × Bool)} {env : Env} {L : List Res} {T T' : TypeId} {x y : Operand}
theorem q_shr_i {k' : IntKind} {p : Int} {m : Nat} (hx : evalE env x = some (.int .i64 p)) (hy : evalE env y = some (.int k' (m : Int))) (hm : m ≤ 63) :
    QT P n S w0 { dst := some d, op := .binOp .shr T x y T', type := ty, pos, after := af, guard := g } env L (.val (.int .i64 (p / 2 ^ m))) :=
  q_shr_k hx hy (by
    rw [show min m IntKind.i64.bits = m from by show min m 64 = m; omega, Int.fdiv_eq_ediv_of_nonneg _ (Int.le_of_lt (Int.pow_pos (by omega)))])
theorem q_shl_i {k' : IntKind} {p : Int} {m : Nat} (hx : evalE env x = some (.int .i64 p)) (hy : evalE env y = some (.int k' (m : Int))) (hm : m ≤ 63) (h1 : -9223372036854775808 ≤ p * 2 ^ m) (h2 : p * 2 ^ m ≤ 9223372036854775807) :
    QT P n S w0 { dst := some d, op := .binOp .shl T x y T', type := ty, pos, after := af, guard := g } env L (.val (.int .i64 (p * 2 ^ m))) :=
  q_shl_k hx hy (by
    rw [show min m IntKind.i64.bits = m from by show min m 64 = m; omega, wi h1 h2])
theorem and_mask (p : Int) (k : Nat) (hk : k ≤ 62) : IntKind.i64.wrap ((BitVec.ofInt IntKind.i64.bits p &&& BitVec.ofInt IntKind.i64.bits (2 ^ k - 1)).toNat : Int) = p % 2 ^ k := by
  show IntKind.i64.wrap ((BitVec.ofInt 64 p &&& BitVec.ofInt 64 (2 ^ k - 1)).toNat : Int) = p % 2 ^ k
  have hk2 : (2 : Nat) ^ k ≤ 2 ^ 62 := Nat.pow_le_pow_right (by omega) hk
  have hk0 : 0 < (2 : Nat) ^ k := Nat.pow_pos (by omega)
  have e1 : (BitVec.ofInt 64 (2 ^ k - 1)).toNat = 2 ^ k - 1 := by
    rw [BitVec.toNat_ofInt]
    have : ((2 : Int) ^ k - 1) = ((2 ^ k - 1 : Nat) : Int) := by
      rw [Int.ofNat_sub (by omega)]; norm_cast
    rw [this]
    rw [Int.emod_eq_of_lt (by omega) (by omega)]
    rfl
  have e2 : ((BitVec.ofInt 64 p).toNat : Int) = p % 2 ^ 64 := by
    rw [BitVec.toNat_ofInt]
    rw [Int.toNat_of_nonneg (Int.emod_nonneg _ (by decide))]
    rfl
  rw [BitVec.toNat_and, e1, Nat.and_two_pow_sub_one_eq_mod]
  have e3 : (((BitVec.ofInt 64 p).toNat % 2 ^ k : Nat) : Int) = p % 2 ^ k := by
    rw [Int.natCast_emod, e2]
    have : ((2 ^ k : Nat) : Int) ∣ 2 ^ 64 := by
      refine ⟨((2 ^ (64 - k) : Nat) : Int), ?_⟩
      rw [← Int.natCast_mul, ← Nat.pow_add, show k + (64 - k) = 64 by omega]
      rfl
    rw [Int.emod_emod_of_dvd _ this]
    norm_cast
  rw [e3]
  have h3 : 0 ≤ p % 2 ^ k := Int.emod_nonneg _ (by have : (0 : Int) < 2 ^ k := Int.pow_pos (by omega); omega)
  have h4 : p % 2 ^ k < 2 ^ k := Int.emod_lt_of_pos _ (Int.pow_pos (by omega))
  have h5 : (2 : Int) ^ k ≤ 2 ^ 62 := by
    have : ((2 ^ k : Nat) : Int) ≤ ((2 ^ 62 : Nat) : Int) := Int.ofNat_le.2 hk2
    simpa using this
  exact wi (by omega) (by omega)
theorem q_and_i {p q : Int} (k : Nat) (hk : k ≤ 62) (hq : q = 2 ^ k - 1) (hx : evalE env x = some (.int .i64 p)) (hy : evalE env y = some (.int .i64 q)) :
    QT P n S w0 { dst := some d, op := .binOp .and T x y T', type := ty, pos, after := af, guard := g } env L (.val (.int .i64 (p % 2 ^ k))) :=
  q_and_k hx hy (by rw [hq]; exact and_mask p k hk)
theorem q_or_b {p q : Nat} (hp : p < 256) (hq : q < 256) (hx : evalE env x = some (.int .i64 (p : Int))) (hy : evalE env y = some (.int .i64 ((q : Int) * 256))) :
    QT P n S w0 { dst := some d, op := .binOp .or T x y T', type := ty, pos, after := af, guard := g } env L (.val (.int .i64 ((p + 256 * q : Nat) : Int))) :=
  q_or_k hx hy (by
    show IntKind.i64.wrap ((BitVec.ofInt 64 (p : Int) ||| BitVec.ofInt 64 ((q : Int) * 256)).toNat : Int) = _
    have e1 : (BitVec.ofInt 64 (p : Int)).toNat = p := by rw [BitVec.toNat_ofInt]; omega
    have e2 : (BitVec.ofInt 64 ((q : Int) * 256)).toNat = 2 ^ 8 * q := by rw [BitVec.toNat_ofInt]; omega
    rw [BitVec.toNat_or, e1, e2, Nat.or_comm, ← Nat.two_pow_add_eq_or_of_lt (by omega), wi (by omega) (by omega)]
    congr 1
    omega)
theorem q_conv_ib {src dst : TypeId} {ds : TypeDesc} {k' : IntKind} {p : Int} (hs : P.underlying src = some ds) (hd : P.underlying dst = some (.int .u8)) (hx : evalE env x = some (.int k' p)) :
    QT P n S w0 { dst := some d, op := .convert src dst x, type := ty, pos, after := af, guard := g } env L (.val (vU8 (UInt8.ofNat (p % 256).toNat))) :=
  q_conv_k hs hd hx (by
    simp only [IntKind.wrap, IntKind.bits, IntKind.signed, Bool.false_and, Bool.false_eq_true, if_false, UInt8.toNat_ofNat']
    omega)
theorem q_conv_nw {src dst : TypeId} {ds : TypeDesc} {k' : IntKind} {p : Nat} (hs : P.underlying src = some ds) (hd : P.underlying dst = some (.int .u64)) (hx : evalE env x = some (.int k' (p : Int))) (h : p < 18446744073709551616) :
    QT P n S w0 { dst := some d, op := .convert src dst x, type := ty, pos, after := af, guard := g } env L (.val (vW p)) :=
  q_conv_k hs hd hx (ww h)
theorem q_add_w {p q : Nat} (hx : evalE env x = some (vW p)) (hy : evalE env y = some (vW q)) (h : p + q < 18446744073709551616) :
    QT P n S w0 { dst := some d, op := .binOp .add T x y T', type := ty, pos, after := af, guard := g } env L (.val (vW (p + q))) :=
  q_add_k hx hy (by rw [← Int.natCast_add]; exact ww h)
theorem q_mul_w {p q : Nat} (hx : evalE env x = some (vW p)) (hy : evalE env y = some (vW q)) (h : p * q < 18446744073709551616) :
    QT P n S w0 { dst := some d, op := .binOp .mul T x y T', type := ty, pos, after := af, guard := g } env L (.val (vW (p * q))) :=
  q_mul_k hx hy (by rw [← Int.natCast_mul]; exact ww h)
theorem q_sub_w {p q : Nat} (hx : evalE env x = some (vW p)) (hy : evalE env y = some (vW q)) (h1 : q ≤ p) (h : p < 18446744073709551616) :
    QT P n S w0 { dst := some d, op := .binOp .sub T x y T', type := ty, pos, after := af, guard := g } env L (.val (vW (p - q))) :=
  q_sub_k hx hy (by rw [← Int.ofNat_sub h1]; exact ww (by omega))
theorem q_quo_w {p q : Nat} (hx : evalE env x = some (vW p)) (hy : evalE env y = some (vW q)) (h1 : 0 < q) (h : p < 18446744073709551616) :
    QT P n S w0 { dst := some d, op := .binOp .quo T x y T', type := ty, pos, after := af, guard := g } env L (.val (vW (p / q))) :=
  q_bin hx hy fun w => by
    have h0 : ¬ ((q : Int) = 0) := by omega
    have h3 : ((p : Int).tdiv (q : Int)) = ((p / q : Nat) : Int) := by rw [Int.tdiv_eq_ediv_of_nonneg (by omega)]; norm_cast
    have h4 : p / q ≤ p := Nat.div_le_self _ _
    have hq : q ≠ 0 := by omega
    have h5 := ww (x := p / q) (by omega)
    simp only [eqGuard, binOp, Op.intDiv, Sem.run_bind, h3, h5]
    simp [hq]
theorem l_stN {t : TypeId} {b j : Nat} {T : TypeId} {l : List Nat} {v : Nat} (k : Nat) (hx : evalE env x = some (vP b j)) (hy : evalE env y = some (vW v)) (hk : L[k]? = some (.blk b T (n64s l))) (hi : (P.info? t).map (·.size) = some 1) (hl : j < l.length)
    (h : VL P n S w0 ops Q rest env (L.set k (.blk b T (n64s (l.set j v))))) : VL P n S w0 ops Q ({ dst := none, op := .store t x y, type := ty, pos, after := af, guard := none } :: rest) env L :=
  l_store1 k hx hy hk hi rfl (by rw [n64s_length]; exact hl) (by rw [n64s_set]; exact h)
end
end Go.PBYtabmfndiepmcgaa
end
section
namespace Go.PBYtabmfndiepmcgaa
open Go Go.RowKit
set_option linter.unusedVariables false
/-- 2^255 - 19 -/
def pN : Nat := 57896044618658097711785492504343953926634992332820282019728792003956564819949
abbrev pZ : Int := 57896044618658097711785492504343953926634992332820282019728792003956564819949
def valI : List Int → Int
  | [] => 0
  | x :: r => x + 65536 * valI r
theorem getD_set {α : Type} (l : List α) (i j : Nat) (x d : α) (hi : i < l.length) : (l.set i x).getD j d = if i = j then x else l.getD j d := by
  rw [List.getD_eq_getElem?_getD, List.getD_eq_getElem?_getD, List.getElem?_set]
  by_cases h : i = j
  · subst h; simp [hi]
  · rw [if_neg h, if_neg h]
theorem two_set {l : List Int} {i k : Nat} {a b : Int} (j : Nat) (hi : i < l.length) (hk : k < l.length) (hne : i ≠ k) : ((l.set i a).set k ((l.set i a).getD k 0 + b)).getD j 0 = if k = j then l.getD k 0 + b else if i = j then a else l.getD j 0 := by
  rw [getD_set _ k j _ _ (by simp; exact hk)]
  by_cases h : k = j
  · rw [if_pos h, if_pos h, getD_set _ i k _ _ hi, if_neg hne]
  · rw [if_neg h, if_neg h, getD_set _ i j _ _ hi]
theorem valI_set : ∀ (l : List Int) (i : Nat) (x : Int), i < l.length → valI (l.set i x) = valI l + (x - l.getD i 0) * 65536 ^ i
  | [], i, x, h => by simp at h
  | y :: l, 0, x, h => by simp [valI]; omega
  | y :: l, i + 1, x, h => by
    have ih := valI_set l i x (by simpa using h)
    rw [List.set_cons_succ, valI, ih, valI]
    have e : (y :: l).getD (i + 1) 0 = l.getD i 0 := by simp
    rw [e, Int.pow_succ 65536 i, Int.mul_add]
    have : 65536 * ((x - l.getD i 0) * 65536 ^ i) = (x - l.getD i 0) * (65536 ^ i * 65536) := by
      rw [Int.mul_comm 65536, Int.mul_assoc]
    omega
/-! ### carrying -/
def cSt (v : List Int) : Nat → List Int
  | 0 => v
  | i + 1 =>
    let s := cSt v i
    let c := s.getD i 0 / 2 ^ 16
    let s1 := s.set i (s.getD i 0 - c * 2 ^ 16)
    if i < 15 then s1.set (i + 1) (s1.getD (i + 1) 0 + c) else s1.set 0 (s1.getD 0 0 + 38 * c)
def carryL (v : List Int) : List Int := cSt v 16
theorem cSt_length (v : List Int) : ∀ i, (cSt v i).length = v.length
  | 0 => rfl
  | i + 1 => by
    have ih := cSt_length v i
    unfold cSt
    simp only
    split <;> simp [ih]
theorem carryL_length (v : List Int) : (carryL v).length = v.length := cSt_length v 16
/-- what is carried into part i -/
def cOut (v : List Int) : Nat → Int
  | 0 => 0
  | i + 1 => (v.getD i 0 + cOut v i) / 65536
theorem cSt_get {v : List Int} (hv : v.length = 16) : ∀ i, i ≤ 15 → ∀ j, j < 16 → (cSt v i).getD j 0 = if j < i then (v.getD j 0 + cOut v j) % 65536 else if j = i then v.getD j 0 + cOut v j else v.getD j 0
  | 0, _, j, hj => by
    rw [cSt, if_neg (by omega)]
    split
    · rename_i h; subst h; simp [cOut]
    · rfl
  | i + 1, hi, j, hj => by
    have ih := cSt_get hv i (by omega)
    have hl := (cSt_length v i).trans hv
    have hsi := ih i (by omega)
    rw [if_neg (by omega), if_pos rfl] at hsi
    have hsi1 := ih (i + 1) (by omega)
    rw [if_neg (by omega), if_neg (by omega)] at hsi1
    unfold cSt
    simp only
    rw [if_pos (by omega), two_set j (by omega) (by omega) (by omega), hsi1, hsi]
    by_cases h1 : i + 1 = j
    · subst h1
      rw [if_pos rfl, if_neg (by omega), if_pos rfl, cOut]
      rfl
    · rw [if_neg h1]
      by_cases h2 : i = j
      · subst h2
        rw [if_pos rfl, if_pos (by omega)]
        have h3 := Int.emod_add_mul_ediv (v.getD i 0 + cOut v i) 65536
        omega
      · rw [if_neg h2, ih j hj]
        by_cases h3 : j < i
        · rw [if_pos h3, if_pos (by omega)]
        · rw [if_neg h3, if_neg (by omega), if_neg (by omega), if_neg (by omega)]
theorem carryL_get {v : List Int} (hv : v.length = 16) (j : Nat) (hj : j < 16) : (carryL v).getD j 0 = if j = 0 then (v.getD 0 0) % 65536 + 38 * cOut v 16 else (v.getD j 0 + cOut v j) % 65536 := by
  have ih := cSt_get hv 15 (by omega)
  have hl := (cSt_length v 15).trans hv
  have hsi := ih 15 (by omega)
  rw [if_neg (by omega), if_pos rfl] at hsi
  have h0 := ih 0 (by omega)
  rw [if_pos (by omega), cOut, Int.add_zero] at h0
  unfold carryL cSt
  simp only
  rw [if_neg (show ¬ (15 < 15) by omega), two_set j (by omega) (by omega) (by omega), h0, hsi]
  by_cases h1 : 0 = j
  · subst h1
    rw [if_pos rfl, if_pos rfl]
    rfl
  · rw [if_neg h1, if_neg (show ¬ j = 0 by omega)]
    by_cases h2 : 15 = j
    · subst h2
      rw [if_pos rfl]
      have h3 := Int.emod_add_mul_ediv (v.getD 15 0 + cOut v 15) 65536
      omega
    · rw [if_neg h2, ih j hj, if_pos (by omega)]
theorem cSt_val {v : List Int} (hv : v.length = 16) : ∀ i, i ≤ 15 → valI (cSt v i) = valI v
  | 0, _ => rfl
  | i + 1, hi => by
    have ih := cSt_val hv i (by omega)
    have hl := (cSt_length v i).trans hv
    unfold cSt
    simp only
    rw [if_pos (by omega), valI_set _ _ _ (by simp [hl]; omega), valI_set _ _ _ (by omega), ih, Int.pow_succ 65536 i]
    generalize (cSt v i).getD i 0 / 2 ^ 16 = c
    have e1 : ∀ a b : Int, a + b - a = b := by intro a b; omega
    have e2 : (cSt v i).getD i 0 - c * 2 ^ 16 - (cSt v i).getD i 0 = -(c * 65536) := by omega
    rw [e1, e2, Int.neg_mul, Int.mul_assoc, Int.mul_comm 65536]
    omega
theorem carryL_val {v : List Int} (hv : v.length = 16) : valI (carryL v) = valI v - 2 * pZ * cOut v 16 := by
  have ih := cSt_val hv 15 (by omega)
  have hl := (cSt_length v 15).trans hv
  have hsi := cSt_get hv 15 (by omega) 15 (by omega)
  rw [if_neg (by omega), if_pos rfl] at hsi
  unfold carryL cSt
  simp only
  rw [if_neg (by omega), valI_set _ _ _ (by simp [hl]), valI_set _ _ _ (by omega), ih, hsi]
  have hc : (v.getD 15 0 + cOut v 15) / 2 ^ 16 = cOut v 16 := rfl
  rw [hc]
  generalize cOut v 16 = c
  have e1 : ∀ a b : Int, a + b - a = b := by intro a b; omega
  have e2 : v.getD 15 0 + cOut v 15 - c * 2 ^ 16 - (v.getD 15 0 + cOut v 15) = -(c * 65536) := by omega
  rw [e1, e2, show (65536 : Int) ^ 15 = 1766847064778384329583297500742918515827483896875618958121606201292619776 by decide, Int.pow_zero]
  simp only [pZ]
  omega
theorem cOut_bound {v : List Int} {M K : Int} (hM : ∀ j, j < 16 → -M ≤ v.getD j 0 ∧ v.getD j 0 ≤ M) (hK : M + K ≤ 65536 * (K - 1)) (hK0 : 0 ≤ K) : ∀ i, i ≤ 16 → -K ≤ cOut v i ∧ cOut v i ≤ K
  | 0, _ => by simp only [cOut]; omega
  | i + 1, hi => by
    have ih := cOut_bound hM hK hK0 i (by omega)
    have h := hM i (by omega)
    simp only [cOut]
    omega
/-- a number as it is kept -/
def okE (v : List Int) : Prop := v.length = 16 ∧ (-131072 ≤ v.getD 0 0 ∧ v.getD 0 0 ≤ 131072) ∧ ∀ j, 1 ≤ j → j < 16 → 0 ≤ v.getD j 0 ∧ v.getD j 0 ≤ 65535
theorem okE.all {v : List Int} (h : okE v) : ∀ j, j < 16 → -131072 ≤ v.getD j 0 ∧ v.getD j 0 ≤ 131072 := by
  intro j hj
  obtain ⟨h1, h2, h3⟩ := h
  by_cases h0 : j = 0
  · subst h0; exact h2
  · have := h3 j (by omega) hj; omega
theorem carryL_okE {v : List Int} (hv : v.length = 16) (hM : ∀ j, j < 16 → -524288 ≤ v.getD j 0 ∧ v.getD j 0 ≤ 524288) : okE (carryL v) := by
  have hc := cOut_bound (K := 10) hM (by omega) (by omega) 16 (by omega)
  refine ⟨(carryL_length v).trans hv, ?_, ?_⟩
  · rw [carryL_get hv 0 (by omega), if_pos rfl]; omega
  · intro j h1 h2
    rw [carryL_get hv j h2, if_neg (by omega)]
    omega
/-- behind a first carry of great parts a second one will do -/
theorem carry2_okE {v : List Int} (hv : v.length = 16) (hM : ∀ j, j < 16 → -1152921504606846976 ≤ v.getD j 0 ∧ v.getD j 0 ≤ 1152921504606846976) : okE (carryL (carryL v)) := by
  have hc := cOut_bound (K := 35184372088832) hM (by omega) (by omega) 16 (by omega)
  have hl := (carryL_length v).trans hv
  have g0 := carryL_get hv 0 (by omega)
  rw [if_pos rfl] at g0
  have gj : ∀ j, 1 ≤ j → j < 16 → 0 ≤ (carryL v).getD j 0 ∧ (carryL v).getD j 0 ≤ 65535 := by
    intro j h1 h2
    rw [carryL_get hv j h2, if_neg (by omega)]
    omega
  generalize carryL v = u at hl g0 gj
  have c1 : -20401094656 ≤ cOut u 1 ∧ cOut u 1 ≤ 20401094656 := by simp only [cOut]; omega
  have g1 := gj 1 (by omega) (by omega)
  have c2 : -311298 ≤ cOut u 2 ∧ cOut u 2 ≤ 311298 := by rw [cOut]; omega
  have g2 := gj 2 (by omega) (by omega)
  have c3 : -6 ≤ cOut u 3 ∧ cOut u 3 ≤ 6 := by rw [cOut]; omega
  have ck : ∀ k, 3 + k ≤ 16 → -6 ≤ cOut u (3 + k) ∧ cOut u (3 + k) ≤ 6 := by
    intro k
    induction k with
    | zero => intro _; exact c3
    | succ k ih =>
      intro h
      have ih := ih (by omega)
      have gk := gj (3 + k) (by omega) (by omega)
      show -6 ≤ (u.getD (3 + k) 0 + cOut u (3 + k)) / 65536 ∧ (u.getD (3 + k) 0 + cOut u (3 + k)) / 65536 ≤ 6
      omega
  have c16 : -6 ≤ cOut u 16 ∧ cOut u 16 ≤ 6 := ck 13 (by omega)
  refine ⟨(carryL_length u).trans hl, ?_, ?_⟩
  · rw [carryL_get hl 0 (by omega), if_pos rfl]; omega
  · intro j h1 h2
    rw [carryL_get hl j h2, if_neg (by omega)]
    omega
/-! ### sums, differences -/
def addSt (e f : List Int) : Nat → List Int
  | 0 => e
  | i + 1 => (addSt e f i).set i ((addSt e f i).getD i 0 + f.getD i 0)
def subSt (e f : List Int) : Nat → List Int
  | 0 => e
  | i + 1 => (subSt e f i).set i ((subSt e f i).getD i 0 - f.getD i 0)
theorem addSt_length (e f : List Int) : ∀ i, (addSt e f i).length = e.length
  | 0 => rfl
  | i + 1 => by rw [addSt, List.length_set, addSt_length]
theorem subSt_length (e f : List Int) : ∀ i, (subSt e f i).length = e.length
  | 0 => rfl
  | i + 1 => by rw [subSt, List.length_set, subSt_length]
theorem addSt_get {e f : List Int} (he : e.length = 16) : ∀ i, i ≤ 16 → ∀ j, (addSt e f i).getD j 0 = if j < i then e.getD j 0 + f.getD j 0 else e.getD j 0
  | 0, _, j => by simp [addSt]
  | i + 1, hi, j => by
    have ih := addSt_get (f := f) he i (by omega)
    rw [addSt, getD_set _ _ _ _ _ (by rw [addSt_length]; omega), ih i, if_neg (show ¬ i < i by omega), ih j]
    by_cases h : i = j
    · subst h; rw [if_pos rfl, if_pos (by omega)]
    · rw [if_neg h]
      by_cases h2 : j < i
      · rw [if_pos h2, if_pos (by omega)]
      · rw [if_neg h2, if_neg (by omega)]
theorem subSt_get {e f : List Int} (he : e.length = 16) : ∀ i, i ≤ 16 → ∀ j, (subSt e f i).getD j 0 = if j < i then e.getD j 0 - f.getD j 0 else e.getD j 0
  | 0, _, j => by simp [subSt]
  | i + 1, hi, j => by
    have ih := subSt_get (f := f) he i (by omega)
    rw [subSt, getD_set _ _ _ _ _ (by rw [subSt_length]; omega), ih i, if_neg (show ¬ i < i by omega), ih j]
    by_cases h : i = j
    · subst h; rw [if_pos rfl, if_pos (by omega)]
    · rw [if_neg h]
      by_cases h2 : j < i
      · rw [if_pos h2, if_pos (by omega)]
      · rw [if_neg h2, if_neg (by omega)]
theorem valI_snoc : ∀ (l : List Int) (i : Nat), i < l.length → valI (l.take (i + 1)) = valI (l.take i) + l.getD i 0 * 65536 ^ i
  | [], i, h => by simp at h
  | x :: l, 0, h => by simp [valI]
  | x :: l, i + 1, h => by
    have ih := valI_snoc l i (by simpa using h)
    rw [List.take_succ_cons, List.take_succ_cons, valI, valI, ih]
    have e : (x :: l).getD (i + 1) 0 = l.getD i 0 := by simp
    rw [e, Int.mul_add, Int.pow_succ 65536 i]
    have : 65536 * (l.getD i 0 * 65536 ^ i) = l.getD i 0 * (65536 ^ i * 65536) := by rw [Int.mul_comm 65536, Int.mul_assoc]
    omega
theorem addSt_val {e f : List Int} (he : e.length = 16) (hf : f.length = 16) : ∀ i, i ≤ 16 → valI (addSt e f i) = valI e + valI (f.take i)
  | 0, _ => by simp [addSt, valI]
  | i + 1, hi => by
    have ih := addSt_val he hf i (by omega)
    rw [addSt, valI_set _ _ _ (by rw [addSt_length]; omega), ih, valI_snoc f i (by omega)]
    have e1 : ∀ a b : Int, a + b - a = b := by intro a b; omega
    rw [e1]
    omega
theorem subSt_val {e f : List Int} (he : e.length = 16) (hf : f.length = 16) : ∀ i, i ≤ 16 → valI (subSt e f i) = valI e - valI (f.take i)
  | 0, _ => by simp [subSt, valI]
  | i + 1, hi => by
    have ih := subSt_val he hf i (by omega)
    rw [subSt, valI_set _ _ _ (by rw [subSt_length]; omega), ih, valI_snoc f i (by omega)]
    have e1 : ∀ a b : Int, a - b - a = -b := by intro a b; omega
    rw [e1, Int.neg_mul]
    omega
def addL (e f : List Int) : List Int := carryL (addSt e f 16)
def subL (e f : List Int) : List Int := carryL (subSt e f 16)
theorem addL_okE {e f : List Int} (he : okE e) (hf : okE f) : okE (addL e f) := by
  refine carryL_okE ((addSt_length e f 16).trans he.1) fun j hj => ?_
  rw [addSt_get he.1 16 (by omega), if_pos hj]
  have h1 := he.all j hj
  have h2 := hf.all j hj
  omega
theorem subL_okE {e f : List Int} (he : okE e) (hf : okE f) : okE (subL e f) := by
  refine carryL_okE ((subSt_length e f 16).trans he.1) fun j hj => ?_
  rw [subSt_get he.1 16 (by omega), if_pos hj]
  have h1 := he.all j hj
  have h2 := hf.all j hj
  omega
theorem addL_val {e f : List Int} (he : okE e) (hf : okE f) : valI (addL e f) % pZ = (valI e + valI f) % pZ := by
  rw [addL, carryL_val ((addSt_length e f 16).trans he.1), addSt_val he.1 hf.1 16 (by omega), List.take_of_length_le (by rw [hf.1]; omega), Int.mul_comm 2, Int.mul_assoc, Int.sub_mul_emod_self_left]
theorem subL_val {e f : List Int} (he : okE e) (hf : okE f) : valI (subL e f) % pZ = (valI e - valI f) % pZ := by
  rw [subL, carryL_val ((subSt_length e f 16).trans he.1), subSt_val he.1 hf.1 16 (by omega), List.take_of_length_le (by rw [hf.1]; omega), Int.mul_comm 2, Int.mul_assoc, Int.sub_mul_emod_self_left]
/-! ### products -/
def mulIn (e f : List Int) (i : Nat) (t : List Int) : Nat → List Int
  | 0 => t
  | k + 1 => (mulIn e f i t k).set (i + k) ((mulIn e f i t k).getD (i + k) 0 + e.getD i 0 * f.getD k 0)
def mulOut (e f : List Int) : Nat → List Int
  | 0 => List.replicate 32 0
  | i + 1 => mulIn e f i (mulOut e f i) 16
theorem mulIn_length (e f : List Int) (i : Nat) (t : List Int) : ∀ k, (mulIn e f i t k).length = t.length
  | 0 => rfl
  | k + 1 => by rw [mulIn, List.length_set, mulIn_length]
theorem mulOut_length (e f : List Int) : ∀ i, (mulOut e f i).length = 32
  | 0 => rfl
  | i + 1 => by rw [mulOut, mulIn_length, mulOut_length]
theorem mulIn_val {e f : List Int} {i : Nat} {t : List Int} (hf : f.length = 16) (hi : i < 16) (ht : t.length = 32) : ∀ k, k ≤ 16 → valI (mulIn e f i t k) = valI t + e.getD i 0 * 65536 ^ i * valI (f.take k)
  | 0, _ => by simp [mulIn, valI]
  | k + 1, hk => by
    have ih := mulIn_val (e := e) (i := i) hf hi ht k (by omega)
    rw [mulIn, valI_set _ _ _ (by rw [mulIn_length]; omega), ih, valI_snoc f k (by omega)]
    have e1 : ∀ a b : Int, a + b - a = b := by intro a b; omega
    rw [e1, Int.pow_add, Int.mul_add]
    have e2 : e.getD i 0 * f.getD k 0 * (65536 ^ i * 65536 ^ k) = e.getD i 0 * 65536 ^ i * (f.getD k 0 * 65536 ^ k) := by
      rw [Int.mul_assoc, Int.mul_assoc, Int.mul_left_comm (f.getD k 0)]
    omega
theorem mulOut_val {e f : List Int} (he : e.length = 16) (hf : f.length = 16) : ∀ i, i ≤ 16 → valI (mulOut e f i) = valI (e.take i) * valI f
  | 0, _ => by
    have : ∀ n, valI (List.replicate n 0) = 0 := by
      intro n
      induction n with
      | zero => rfl
      | succ n ih => rw [List.replicate_succ, valI, ih]; rfl
    rw [mulOut, this]
    simp [valI]
  | i + 1, hi => by
    have ih := mulOut_val he hf i (by omega)
    rw [mulOut, mulIn_val hf (by omega) (mulOut_length e f i) 16 (by omega), ih, valI_snoc e i (by omega), List.take_of_length_le (l := f) (by omega), Int.add_mul]
theorem mulIn_bound {e f : List Int} {i : Nat} {t : List Int} {B M : Int} (he : ∀ j, j < 16 → -B ≤ e.getD j 0 ∧ e.getD j 0 ≤ B) (hf : ∀ j, j < 16 → -B ≤ f.getD j 0 ∧ f.getD j 0 ≤ B) (hB : 0 ≤ B) (hi : i < 16) (ht : t.length = 32)
    (hM : ∀ j, j < 32 → -M ≤ t.getD j 0 ∧ t.getD j 0 ≤ M) : ∀ k, k ≤ 16 → ∀ j, j < 32 → (-(M + B * B) ≤ (mulIn e f i t k).getD j 0 ∧ (mulIn e f i t k).getD j 0 ≤ M + B * B) ∧ (i + k ≤ j → (mulIn e f i t k).getD j 0 = t.getD j 0)
  | 0, _, j, hj => by
    have h := hM j hj
    have hBB : 0 ≤ B * B := Int.mul_nonneg hB hB
    rw [mulIn]
    exact ⟨by omega, fun _ => rfl⟩
  | k + 1, hk, j, hj => by
    have ih := mulIn_bound he hf hB hi ht hM k (by omega)
    have hBB : 0 ≤ B * B := Int.mul_nonneg hB hB
    rw [mulIn, getD_set _ _ _ _ _ (by rw [mulIn_length]; omega)]
    by_cases h : i + k = j
    · subst h
      rw [if_pos rfl, (ih (i + k) (by omega)).2 (Nat.le_refl _)]
      have h1 := hM (i + k) (by omega)
      obtain ⟨a1, a2⟩ := he i (by omega)
      obtain ⟨b1, b2⟩ := hf k (by omega)
      have h2 : (e.getD i 0 * f.getD k 0).natAbs ≤ (B * B).natAbs := by
        rw [Int.natAbs_mul, Int.natAbs_mul]
        exact Nat.mul_le_mul (by omega) (by omega)
      exact ⟨by omega, fun h => by omega⟩
    · rw [if_neg h]
      exact ⟨(ih j hj).1, fun h2 => (ih j hj).2 (by omega)⟩
theorem rep0 (m j : Nat) : (List.replicate m (0 : Int)).getD j 0 = 0 := by
  rw [List.getD_eq_getElem?_getD, List.getElem?_replicate]
  split <;> rfl
theorem mulOut_bound {e f : List Int} {B : Int} (he : ∀ j, j < 16 → -B ≤ e.getD j 0 ∧ e.getD j 0 ≤ B) (hf : ∀ j, j < 16 → -B ≤ f.getD j 0 ∧ f.getD j 0 ≤ B) (hB : 0 ≤ B) : ∀ i : Nat, i ≤ 16 → ∀ j, j < 32 → -((i : Int) * (B * B)) ≤ (mulOut e f i).getD j 0 ∧ (mulOut e f i).getD j 0 ≤ (i : Int) * (B * B)
  | 0, _, j, hj => by
    rw [mulOut, rep0]
    simp
  | i + 1, hi, j, hj => by
    have ih := mulOut_bound he hf hB i (by omega)
    have h := (mulIn_bound (i := i) (M := (i : Int) * (B * B)) he hf hB (by omega) (mulOut_length e f i) ih 16 (by omega) j hj).1
    rw [mulOut]
    have e1 : ((i + 1 : Nat) : Int) * (B * B) = (i : Int) * (B * B) + B * B := by rw [Int.natCast_add, Int.add_mul]; simp
    rw [e1]
    exact h
def foldSt (t : List Int) : Nat → List Int
  | 0 => List.replicate 16 0
  | i + 1 => (foldSt t i).set i (t.getD i 0 + 38 * t.getD (i + 16) 0)
theorem foldSt_length (t : List Int) : ∀ i, (foldSt t i).length = 16
  | 0 => rfl
  | i + 1 => by rw [foldSt, List.length_set, foldSt_length]
theorem foldSt_get {t : List Int} : ∀ i, i ≤ 16 → ∀ j, j < 16 → (foldSt t i).getD j 0 = if j < i then t.getD j 0 + 38 * t.getD (j + 16) 0 else 0
  | 0, _, j, hj => by rw [foldSt, rep0, if_neg (Nat.not_lt_zero j)]
  | i + 1, hi, j, hj => by
    have ih := foldSt_get (t := t) i (by omega)
    rw [foldSt, getD_set _ _ _ _ _ (by rw [foldSt_length]; omega), ih j hj]
    by_cases h : i = j
    · subst h; rw [if_pos rfl, if_pos (by omega)]
    · rw [if_neg h]
      by_cases h2 : j < i
      · rw [if_pos h2, if_pos (by omega)]
      · rw [if_neg h2, if_neg (by omega)]
theorem valI_append : ∀ (a b : List Int), valI (a ++ b) = valI a + 65536 ^ a.length * valI b
  | [], b => by simp [valI]
  | x :: a, b => by
    rw [List.cons_append, valI, valI, valI_append a b, List.length_cons, Int.pow_succ, Int.mul_add]
    have : 65536 ^ a.length * 65536 * valI b = 65536 * (65536 ^ a.length * valI b) := by rw [Int.mul_comm (65536 ^ a.length), Int.mul_assoc]
    omega
theorem foldSt_val {t : List Int} (ht : t.length = 32) : ∀ i, i ≤ 16 → valI (foldSt t i) = valI (t.take i) + 38 * valI ((t.drop 16).take i)
  | 0, _ => by
    have : ∀ n, valI (List.replicate n 0) = 0 := by
      intro n
      induction n with
      | zero => rfl
      | succ n ih => rw [List.replicate_succ, valI, ih]; rfl
    rw [foldSt, this]
    simp [valI]
  | i + 1, hi => by
    have ih := foldSt_val ht i (by omega)
    rw [foldSt, valI_set _ _ _ (by rw [foldSt_length]; omega), ih, foldSt_get i (by omega) i (by omega), if_neg (by omega), valI_snoc t i (by omega), valI_snoc (t.drop 16) i (by rw [List.length_drop]; omega)]
    have e : (t.drop 16).getD i 0 = t.getD (i + 16) 0 := by rw [List.getD_eq_getElem?_getD, List.getElem?_drop, Nat.add_comm, List.getD_eq_getElem?_getD]
    rw [e, Int.sub_zero, Int.add_mul, Int.mul_add, Int.mul_assoc]
    omega
def mulL (e f : List Int) : List Int := carryL (carryL (foldSt (mulOut e f 16) 16))
theorem fold_bound {e f : List Int} (he : okE e) (hf : okE f) : ∀ j, j < 16 → -1152921504606846976 ≤ (foldSt (mulOut e f 16) 16).getD j 0 ∧ (foldSt (mulOut e f 16) 16).getD j 0 ≤ 1152921504606846976 := by
  intro j hj
  rw [foldSt_get 16 (by omega) j hj, if_pos hj]
  have hb := mulOut_bound he.all hf.all (by omega) 16 (by omega)
  have h1 := hb j (by omega)
  have h2 := hb (j + 16) (by omega)
  omega
theorem fold_bound2 {e f : List Int} (he : okE e) (hf : okE f) : ∀ j, j < 16 → -1152921504606846976 ≤ (carryL (foldSt (mulOut e f 16) 16)).getD j 0 ∧ (carryL (foldSt (mulOut e f 16) 16)).getD j 0 ≤ 1152921504606846976 := by
  intro j hj
  have hl := foldSt_length (mulOut e f 16) 16
  have hc := cOut_bound (K := 35184372088832) (fold_bound he hf) (by omega) (by omega) 16 (by omega)
  rw [carryL_get hl j hj]
  split <;> omega
theorem mulL_okE {e f : List Int} (he : okE e) (hf : okE f) : okE (mulL e f) := carry2_okE (foldSt_length _ 16) (fold_bound he hf)
theorem sub_p (a c : Int) : (a - 2 * pZ * c) % pZ = a % pZ := by
  rw [Int.mul_comm 2, Int.mul_assoc]
  exact Int.sub_mul_emod_self_left a pZ (2 * c)
theorem mulL_val {e f : List Int} (he : okE e) (hf : okE f) : valI (mulL e f) % pZ = (valI e * valI f) % pZ := by
  have hl := foldSt_length (mulOut e f 16) 16
  have hm := mulOut_length e f 16
  rw [mulL, carryL_val ((carryL_length _).trans hl), sub_p, carryL_val hl, sub_p, foldSt_val hm 16 (by omega)]
  have hs : valI (mulOut e f 16) = valI ((mulOut e f 16).take 16) + 65536 ^ 16 * valI ((mulOut e f 16).drop 16) := by
    have h1 := valI_append ((mulOut e f 16).take 16) ((mulOut e f 16).drop 16)
    rw [List.take_append_drop, List.length_take, hm] at h1
    exact h1
  have hv := mulOut_val he.1 hf.1 16 (by omega)
  rw [List.take_of_length_le (by rw [he.1]; omega)] at hv
  rw [List.take_of_length_le (l := (mulOut e f 16).drop 16) (by rw [List.length_drop, hm]; omega), ← hv, hs]
  have e2 : valI ((mulOut e f 16).take 16) + 38 * valI ((mulOut e f 16).drop 16) = valI ((mulOut e f 16).take 16) + 65536 ^ 16 * valI ((mulOut e f 16).drop 16) - 2 * pZ * valI ((mulOut e f 16).drop 16) := by
    rw [show (65536 : Int) ^ 16 = 115792089237316195423570985008687907853269984665640564039457584007913129639936 by decide]
    simp only [pZ]
    omega
  rw [e2, sub_p]
/-! ### what any number times comes to 1 -/
def invSt (e : List Int) : Nat → List Int
  | 0 => e
  | k + 1 =>
    let o := mulL (invSt e k) (invSt e k)
    if 253 - k = 2 ∨ 253 - k = 4 then o else mulL o e
def invL (e : List Int) : List Int := invSt e 254
theorem invSt_okE {e : List Int} (he : okE e) : ∀ k, okE (invSt e k)
  | 0 => he
  | k + 1 => by
    have ih := invSt_okE he k
    have h2 := mulL_okE ih ih
    unfold invSt
    simp only
    split
    · exact h2
    · exact mulL_okE h2 he
theorem invL_okE {e : List Int} (he : okE e) : okE (invL e) := invSt_okE he 254
/-- the power that it is -/
def invP : Nat → Nat
  | 0 => 1
  | k + 1 => if 253 - k = 2 ∨ 253 - k = 4 then 2 * invP k else 2 * invP k + 1
theorem invP_all : invP 254 = pN - 2 := by decide +kernel
theorem emod_mul {a b c d m : Int} (h1 : a % m = c % m) (h2 : b % m = d % m) : (a * b) % m = (c * d) % m := by
  rw [Int.mul_emod, h1, h2, ← Int.mul_emod]
theorem invSt_val {e : List Int} (he : okE e) : ∀ k, valI (invSt e k) % pZ = (valI e) ^ (invP k) % pZ
  | 0 => by rw [invSt, invP, Int.pow_one]
  | k + 1 => by
    have ih := invSt_val he k
    have hk := invSt_okE he k
    have h2 : valI (mulL (invSt e k) (invSt e k)) % pZ = (valI e) ^ (2 * invP k) % pZ := by
      rw [mulL_val hk hk, emod_mul ih ih, Nat.two_mul, Int.pow_add]
    unfold invSt invP
    simp only
    split
    · exact h2
    · rw [mulL_val (mulL_okE hk hk) he, emod_mul h2 rfl, Int.pow_succ]
theorem invL_val {e : List Int} (he : okE e) : valI (invL e) % pZ = (valI e) ^ (pN - 2) % pZ := by
  rw [invL, invSt_val he 254, invP_all]
/-! ### sums of many -/
end Go.PBYtabmfndiepmcgaa
end
section
namespace Go.PBYtabmfndiepmcgaa
open Go Go.RowKit
set_option linter.unusedVariables false
/-! ### bytes -/
def leZ : List UInt8 → Int
  | [] => 0
  | x :: r => (x.toNat : Int) + 256 * leZ r
theorem leZ_nonneg : ∀ l : List UInt8, 0 ≤ leZ l
  | [] => by simp [leZ]
  | x :: r => by have := leZ_nonneg r; rw [leZ]; omega
theorem leZ_lt : ∀ l : List UInt8, leZ l < 256 ^ l.length
  | [] => by simp [leZ]
  | x :: r => by
    have := leZ_lt r
    have hx := UInt8.toNat_lt x
    rw [leZ, List.length_cons, Int.pow_succ]
    omega
theorem leZ_set : ∀ (l : List UInt8) (i : Nat) (x : UInt8), i < l.length → leZ (l.set i x) = leZ l + ((x.toNat : Int) - ((l.getD i 0).toNat : Int)) * 256 ^ i
  | [], i, x, h => by simp at h
  | y :: l, 0, x, h => by simp [leZ]; omega
  | y :: l, i + 1, x, h => by
    have ih := leZ_set l i x (by simpa using h)
    rw [List.set_cons_succ, leZ, ih, leZ]
    have e : (y :: l).getD (i + 1) 0 = l.getD i 0 := by simp
    rw [e, Int.pow_succ 256 i, Int.mul_add]
    have : 256 * (((x.toNat : Int) - ((l.getD i 0).toNat : Int)) * 256 ^ i) = ((x.toNat : Int) - ((l.getD i 0).toNat : Int)) * (256 ^ i * 256) := by
      rw [Int.mul_comm 256, Int.mul_assoc]
    omega
theorem leZ_inj : ∀ {a b : List UInt8}, a.length = b.length → leZ a = leZ b → a = b
  | [], [], _, _ => rfl
  | [], y :: b, h, _ => by simp at h
  | x :: a, [], h, _ => by simp at h
  | x :: a, y :: b, h, e => by
    rw [leZ, leZ] at e
    have hx := UInt8.toNat_lt x
    have hy := UInt8.toNat_lt y
    have h1 : x.toNat = y.toNat := by omega
    have h2 : leZ a = leZ b := by omega
    rw [UInt8.toNat_inj.1 h1, leZ_inj (by simpa using h) h2]
/-- m bytes of a number -/
def bN : Nat → Nat → List UInt8
  | 0, _ => []
  | m + 1, x => UInt8.ofNat x :: bN m (x / 256)
theorem bN_length : ∀ m x, (bN m x).length = m
  | 0, _ => rfl
  | m + 1, x => by rw [bN, List.length_cons, bN_length m]
theorem leZ_bN : ∀ m x, x < 256 ^ m → leZ (bN m x) = (x : Int)
  | 0, x, h => by simp only [Nat.pow_zero] at h; rw [bN, leZ]; omega
  | m + 1, x, h => by
    rw [bN, leZ, leZ_bN m (x / 256) (by rw [Nat.pow_succ] at h; omega), UInt8.toNat_ofNat']
    omega
theorem bN_leZ {l : List UInt8} {m : Nat} (hl : l.length = m) : bN m (leZ l).toNat = l := by
  have h1 := leZ_nonneg l
  have h2 := leZ_lt l
  rw [hl] at h2
  refine leZ_inj ((bN_length m _).trans hl.symm) ?_
  rw [leZ_bN]
  · omega
  · have : ((256 ^ m : Nat) : Int) = 256 ^ m := Int.natCast_pow 256 m
    omega
/-! ### the number of bytes -/
def ofSt (k : List UInt8) : Nat → List Int
  | 0 => List.replicate 16 0
  | i + 1 => (ofSt k i).set i (((k.getD (2 * i) 0).toNat + 256 * (k.getD (2 * i + 1) 0).toNat : Nat) : Int)
def ofL (k : List UInt8) : List Int := (ofSt k 16).set 15 ((ofSt k 16).getD 15 0 % 2 ^ 15)
theorem ofSt_length (k : List UInt8) : ∀ i, (ofSt k i).length = 16
  | 0 => rfl
  | i + 1 => by rw [ofSt, List.length_set, ofSt_length]
theorem ofSt_get {k : List UInt8} : ∀ i, i ≤ 16 → ∀ j, j < 16 → (ofSt k i).getD j 0 = if j < i then (((k.getD (2 * j) 0).toNat + 256 * (k.getD (2 * j + 1) 0).toNat : Nat) : Int) else 0
  | 0, _, j, hj => by rw [ofSt, rep0, if_neg (Nat.not_lt_zero j)]
  | i + 1, hi, j, hj => by
    have ih := ofSt_get (k := k) i (by omega)
    rw [ofSt, getD_set _ _ _ _ _ (by rw [ofSt_length]; omega), ih j hj]
    by_cases h : i = j
    · subst h; rw [if_pos rfl, if_pos (by omega)]
    · rw [if_neg h]
      by_cases h2 : j < i
      · rw [if_pos h2, if_pos (by omega)]
      · rw [if_neg h2, if_neg (by omega)]
theorem leZ_snoc : ∀ (l : List UInt8) (i : Nat), i < l.length → leZ (l.take (i + 1)) = leZ (l.take i) + ((l.getD i 0).toNat : Int) * 256 ^ i
  | [], i, h => by simp at h
  | x :: l, 0, h => by simp [leZ]
  | x :: l, i + 1, h => by
    have ih := leZ_snoc l i (by simpa using h)
    rw [List.take_succ_cons, List.take_succ_cons, leZ, leZ, ih]
    have e : (x :: l).getD (i + 1) 0 = l.getD i 0 := by simp
    rw [e, Int.mul_add, Int.pow_succ 256 i]
    have : 256 * (((l.getD i 0).toNat : Int) * 256 ^ i) = ((l.getD i 0).toNat : Int) * (256 ^ i * 256) := by rw [Int.mul_comm 256, Int.mul_assoc]
    omega
theorem p2 (i : Nat) : (256 : Int) ^ (2 * i) = 65536 ^ i := by
  rw [Int.pow_mul]
  rfl
theorem valI_rep : ∀ n, valI (List.replicate n 0) = 0
  | 0 => rfl
  | n + 1 => by rw [List.replicate_succ, valI, valI_rep n]; rfl
theorem ofSt_val {k : List UInt8} (hk : k.length = 32) : ∀ i, i ≤ 16 → valI (ofSt k i) = leZ (k.take (2 * i))
  | 0, _ => by rw [ofSt, valI_rep]; simp [leZ]
  | i + 1, hi => by
    have ih := ofSt_val hk i (by omega)
    rw [ofSt, valI_set _ _ _ (by rw [ofSt_length]; omega), ih, ofSt_get i (by omega) i (by omega), if_neg (by omega), show 2 * (i + 1) = 2 * i + 1 + 1 by omega, leZ_snoc k (2 * i + 1) (by omega), leZ_snoc k (2 * i) (by omega), Int.pow_succ 256 (2 * i), p2, Int.sub_zero, Int.natCast_add, Int.add_mul, Int.natCast_mul]
    have : ((256 : Nat) : Int) * ((k.getD (2 * i + 1) 0).toNat : Int) * 65536 ^ i = ((k.getD (2 * i + 1) 0).toNat : Int) * (65536 ^ i * 256) := by
      rw [Int.mul_comm ((256 : Nat) : Int), Int.mul_assoc, Int.mul_comm ((256 : Nat) : Int)]
      rfl
    omega
theorem ofL_dig {k : List UInt8} (hk : k.length = 32) : (ofL k).length = 16 ∧ ∀ j, j < 16 → 0 ≤ (ofL k).getD j 0 ∧ (ofL k).getD j 0 ≤ 65535 := by
  refine ⟨by rw [ofL, List.length_set, ofSt_length], fun j hj => ?_⟩
  rw [ofL, getD_set _ _ _ _ _ (by rw [ofSt_length]; omega), ofSt_get 16 (by omega) j hj, if_pos hj]
  have h1 := UInt8.toNat_lt (k.getD (2 * j) 0)
  have h2 := UInt8.toNat_lt (k.getD (2 * j + 1) 0)
  split <;> omega
theorem ofL_okE {k : List UInt8} (hk : k.length = 32) : okE (ofL k) := by
  obtain ⟨h1, h2⟩ := ofL_dig hk
  exact ⟨h1, by have := h2 0 (by omega); omega, fun j _ hj => h2 j hj⟩
/-- digits -/
def dig (e : List Int) : Prop := e.length = 16 ∧ ∀ j, j < 16 → 0 ≤ e.getD j 0 ∧ e.getD j 0 ≤ 65535
theorem valI_bound : ∀ (l : List Int), (∀ j, j < l.length → 0 ≤ l.getD j 0 ∧ l.getD j 0 ≤ 65535) → 0 ≤ valI l ∧ valI l < 65536 ^ l.length
  | [], _ => by simp [valI]
  | x :: l, h => by
    have ih := valI_bound l (fun j hj => by have := h (j + 1) (by simpa using hj); simpa using this)
    have h0 := h 0 (by simp)
    simp only [List.getD_cons_zero] at h0
    rw [valI, List.length_cons, Int.pow_succ]
    omega
theorem p16 : (65536 : Int) ^ 16 = 115792089237316195423570985008687907853269984665640564039457584007913129639936 := by decide
theorem dig.bound {e : List Int} (h : dig e) : 0 ≤ valI e ∧ valI e < 115792089237316195423570985008687907853269984665640564039457584007913129639936 := by
  have := valI_bound e (fun j hj => h.2 j (by rw [h.1] at hj; exact hj))
  rw [h.1, p16] at this
  exact this
theorem ofL_val {k : List UInt8} (hk : k.length = 32) : valI (ofL k) = leZ k % 57896044618658097711785492504343953926634992332820282019728792003956564819968 := by
  have hl := ofSt_length k 16
  have hv := ofSt_val hk 16 (by omega)
  rw [List.take_of_length_le (by omega)] at hv
  have h15 : valI (ofSt k 16) = valI ((ofSt k 16).take 15) + (ofSt k 16).getD 15 0 * 65536 ^ 15 := by
    have := valI_snoc (ofSt k 16) 15 (by omega)
    rw [List.take_of_length_le (by omega)] at this
    exact this
  have hb := valI_bound ((ofSt k 16).take 15) (fun j hj => by
    rw [List.length_take] at hj
    have e : ((ofSt k 16).take 15).getD j 0 = (ofSt k 16).getD j 0 := by rw [List.getD_eq_getElem?_getD, List.getElem?_take, if_pos (by omega), List.getD_eq_getElem?_getD]
    rw [e, ofSt_get 16 (by omega) j (by omega), if_pos (by omega)]
    have h1 := UInt8.toNat_lt (k.getD (2 * j) 0)
    have h2 := UInt8.toNat_lt (k.getD (2 * j + 1) 0)
    omega)
  rw [List.length_take, hl, show min 15 16 = 15 by decide, show (65536 : Int) ^ 15 = 1766847064778384329583297500742918515827483896875618958121606201292619776 by decide] at hb
  rw [ofL, valI_set _ _ _ (by omega), ← hv, h15, show (65536 : Int) ^ 15 = 1766847064778384329583297500742918515827483896875618958121606201292619776 by decide]
  generalize (ofSt k 16).getD 15 0 = x
  generalize valI ((ofSt k 16).take 15) = y at hb
  omega
/-! ### carrying brings digits -/
theorem carry_dig {v : List Int} (hv : v.length = 16) : 0 ≤ valI v - 115792089237316195423570985008687907853269984665640564039457584007913129639936 * cOut v 16 ∧ valI v - 115792089237316195423570985008687907853269984665640564039457584007913129639936 * cOut v 16 < 115792089237316195423570985008687907853269984665640564039457584007913129639936 := by
  have hl := (carryL_length v).trans hv
  have hd : dig ((carryL v).set 0 ((v.getD 0 0) % 65536)) := by
    refine ⟨by rw [List.length_set, hl], fun j hj => ?_⟩
    rw [getD_set _ _ _ _ _ (by omega), carryL_get hv j hj]
    by_cases h : 0 = j
    · rw [if_pos h]; omega
    · rw [if_neg h, if_neg (by omega)]; omega
  have hb := hd.bound
  rw [valI_set _ _ _ (by omega), carryL_val hv, carryL_get hv 0 (by omega), if_pos rfl] at hb
  simp only [pZ] at hb
  omega
theorem carry_small {v : List Int} (hv : v.length = 16) (h0 : 0 ≤ valI v) (h1 : valI v < 115792089237316195423570985008687907853269984665640564039457584007913129639936) : dig (carryL v) ∧ valI (carryL v) = valI v := by
  have hc := carry_dig hv
  have hc0 : cOut v 16 = 0 := by omega
  refine ⟨⟨(carryL_length v).trans hv, fun j hj => ?_⟩, ?_⟩
  · rw [carryL_get hv j hj, hc0]
    split <;> omega
  · rw [carryL_val hv, hc0]; omega
theorem okE.bound {v : List Int} (h : okE v) : -131072 ≤ valI v ∧ valI v < 115792089237316195423570985008687907853269984665640564039457584007913129771008 := by
  have hd : dig (v.set 0 0) := by
    refine ⟨by rw [List.length_set, h.1], fun j hj => ?_⟩
    rw [getD_set _ _ _ _ _ (by rw [h.1]; omega)]
    by_cases h0 : 0 = j
    · rw [if_pos h0]; omega
    · rw [if_neg h0]; exact h.2.2 j (by omega) hj
  have hb := hd.bound
  rw [valI_set _ _ _ (by rw [h.1]; omega)] at hb
  have h2 := h.2.1
  omega
def carryN (v : List Int) : Nat → List Int
  | 0 => v
  | i + 1 => carryL (carryN v i)
theorem carryN_okE {v : List Int} (h : okE v) : ∀ i, okE (carryN v i)
  | 0 => h
  | i + 1 => by
    have ih := carryN_okE h i
    exact carryL_okE ih.1 (fun j hj => by have := ih.all j hj; omega)
theorem carry3 {v : List Int} (h : okE v) : dig (carryN v 3) ∧ valI (carryN v 3) % pZ = valI v % pZ := by
  have hb := h.bound
  have hc := carry_dig h.1
  have hl1 := (carryL_length v).trans h.1
  have hv1 := carryL_val h.1
  have h1 : 0 ≤ valI (carryL v) ∧ valI (carryL v) < 115792089237316195423570985008687907853269984665640564039457584007913129639936 := by
    rw [hv1]
    simp only [pZ]
    have : cOut v 16 = -1 ∨ cOut v 16 = 0 ∨ cOut v 16 = 1 := by omega
    rcases this with e | e | e <;> rw [e] at hc ⊢ <;> omega
  obtain ⟨d2, v2⟩ := carry_small hl1 h1.1 h1.2
  obtain ⟨d3, v3⟩ := carry_small d2.1 (by omega) (by omega)
  refine ⟨d3, ?_⟩
  show valI (carryL (carryL (carryL v))) % pZ = _
  rw [v3, v2, hv1, sub_p]
/-! ### less p -/
def pD (i : Nat) : Int := if i = 0 then 65517 else if i = 15 then 32767 else 65535
def lessSt (e : List Int) : Nat → List Int × Int
  | 0 => (List.replicate 16 0, 0)
  | i + 1 => ((lessSt e i).1.set i ((e.getD i 0 - (pD i + (lessSt e i).2)) % 2 ^ 16), (e.getD i 0 - (pD i + (lessSt e i).2)) / 2 ^ 16 % 2 ^ 1)
theorem lessSt_length (e : List Int) : ∀ i, (lessSt e i).1.length = 16
  | 0 => rfl
  | i + 1 => by rw [lessSt, List.length_set, lessSt_length]
theorem lessSt_owed (e : List Int) : ∀ i, (lessSt e i).2 = 0 ∨ (lessSt e i).2 = 1
  | 0 => .inl rfl
  | i + 1 => by rw [lessSt]; omega
def pS : Nat → Int
  | 0 => 0
  | i + 1 => pS i + pD i * 65536 ^ i
theorem pS_all : pS 16 = pZ := by decide +kernel
theorem lessSt_get (e : List Int) : ∀ i, i ≤ 16 → ∀ j, j < 16 → (0 ≤ (lessSt e i).1.getD j 0 ∧ (lessSt e i).1.getD j 0 ≤ 65535) ∧ (i ≤ j → (lessSt e i).1.getD j 0 = 0)
  | 0, _, j, hj => by
    rw [lessSt, rep0]
    omega
  | i + 1, hi, j, hj => by
    have ih := lessSt_get e i (by omega) j hj
    rw [lessSt, getD_set _ _ _ _ _ (by rw [lessSt_length]; omega)]
    by_cases h : i = j
    · rw [if_pos h]; omega
    · rw [if_neg h]; omega
theorem lessSt_val {e : List Int} (he : dig e) : ∀ i, i ≤ 16 → valI (lessSt e i).1 = valI (e.take i) - pS i + (lessSt e i).2 * 65536 ^ i
  | 0, _ => by rw [lessSt, valI_rep]; simp [valI, pS]
  | i + 1, hi => by
    have ih := lessSt_val he i (by omega)
    have hg := (lessSt_get e i (by omega) i (by omega)).2 (Nat.le_refl _)
    have ho := lessSt_owed e i
    have hei := he.2 i (by omega)
    rw [lessSt, valI_set _ _ _ (by rw [lessSt_length]; omega), ih, hg, valI_snoc e i (by rw [he.1]; omega), pS, Int.sub_zero, Int.pow_succ 65536 i]
    generalize (lessSt e i).2 = c at ho
    have hp : 0 ≤ pD i ∧ pD i ≤ 65535 := by unfold pD; split <;> (try split) <;> omega
    have key : (e.getD i 0 - (pD i + c)) % 2 ^ 16 = e.getD i 0 - pD i - c + ((e.getD i 0 - (pD i + c)) / 2 ^ 16 % 2 ^ 1) * 65536 := by omega
    dsimp only
    rw [key, Int.add_mul, Int.sub_mul, Int.sub_mul, Int.mul_assoc, Int.mul_comm 65536 (65536 ^ i)]
    omega
theorem lessSt_dig (e : List Int) : dig (lessSt e 16).1 := ⟨lessSt_length e 16, fun j hj => (lessSt_get e 16 (by omega) j hj).1⟩
theorem less_val {e : List Int} (he : dig e) : ((lessSt e 16).2 = 1 ∧ valI e < pZ) ∨ ((lessSt e 16).2 = 0 ∧ pZ ≤ valI e ∧ valI (lessSt e 16).1 = valI e - pZ) := by
  have hv := lessSt_val he 16 (by omega)
  rw [List.take_of_length_le (by rw [he.1]; omega), pS_all, p16] at hv
  have hb := (lessSt_dig e).bound
  have hbe := he.bound
  rcases lessSt_owed e 16 with h | h
  · right; rw [h] at hv; simp only [pZ] at *; exact ⟨h, by omega, by omega⟩
  · left; rw [h] at hv; simp only [pZ] at *; exact ⟨h, by omega⟩
def subN (a : List Int) : Nat → List Int
  | 0 => a
  | i + 1 => if (lessSt (subN a i) 16).2 = 1 then subN a i else (lessSt (subN a i) 16).1
theorem subN_dig {a : List Int} (h : dig a) : ∀ i, dig (subN a i)
  | 0 => h
  | i + 1 => by
    rw [subN]
    split
    · exact subN_dig h i
    · exact lessSt_dig _
theorem sub2 {a : List Int} (h : dig a) : valI (subN a 2) = valI a % pZ := by
  have hb := h.bound
  have h1 := less_val h
  have hd1 := subN_dig h 1
  have h2 := less_val hd1
  rw [subN]
  have e1 : subN a 1 = if (lessSt a 16).2 = 1 then a else (lessSt a 16).1 := rfl
  simp only [pZ] at *
  rcases h1 with ⟨a1, a2⟩ | ⟨a1, a2, a3⟩
  · rw [if_pos a1] at e1
    rw [e1] at h2 ⊢
    rcases h2 with ⟨b1, b2⟩ | ⟨b1, b2, b3⟩
    · rw [if_pos b1]; omega
    · omega
  · rw [if_neg (by omega)] at e1
    rw [e1] at h2 ⊢
    rcases h2 with ⟨b1, b2⟩ | ⟨b1, b2, b3⟩
    · rw [if_pos b1, a3]; omega
    · rw [if_neg (by omega), b3, a3]; omega
/-! ### a number's bytes -/
def keySt (e : List Int) : Nat → List UInt8
  | 0 => List.replicate 32 0
  | i + 1 => ((keySt e i).set (2 * i) (UInt8.ofNat (e.getD i 0 % 256).toNat)).set (2 * i + 1) (UInt8.ofNat (e.getD i 0 / 2 ^ 8 % 256).toNat)
theorem keySt_length (e : List Int) : ∀ i, (keySt e i).length = 32
  | 0 => rfl
  | i + 1 => by rw [keySt, List.length_set, List.length_set, keySt_length]
theorem keySt_rest (e : List Int) : ∀ i, i ≤ 16 → ∀ j, 2 * i ≤ j → j < 32 → (keySt e i).getD j 0 = 0
  | 0, _, j, _, hj => by
    rw [keySt, List.getD_eq_getElem?_getD, List.getElem?_replicate]
    split <;> rfl
  | i + 1, hi, j, h1, h2 => by
    have ih := keySt_rest e i (by omega) j (by omega) h2
    rw [keySt, getD_set _ _ _ _ _ (by rw [List.length_set, keySt_length]; omega), if_neg (by omega), getD_set _ _ _ _ _ (by rw [keySt_length]; omega), if_neg (by omega), ih]
theorem leZ_rep : ∀ n, leZ (List.replicate n 0) = 0
  | 0 => rfl
  | n + 1 => by rw [List.replicate_succ, leZ, leZ_rep n]; rfl
theorem keySt_val {e : List Int} (he : dig e) : ∀ i, i ≤ 16 → leZ (keySt e i) = valI (e.take i)
  | 0, _ => by rw [keySt, leZ_rep]; simp [valI]
  | i + 1, hi => by
    have ih := keySt_val he i (by omega)
    have r1 := keySt_rest e i (by omega) (2 * i) (by omega) (by omega)
    have r2 := keySt_rest e i (by omega) (2 * i + 1) (by omega) (by omega)
    have hei := he.2 i (by omega)
    rw [keySt, leZ_set _ _ _ (by rw [List.length_set, keySt_length]; omega), leZ_set _ _ _ (by rw [keySt_length]; omega), getD_set _ _ _ _ _ (by rw [keySt_length]; omega), if_neg (by omega), r1, r2, ih, valI_snoc e i (by rw [he.1]; omega), Int.pow_succ 256 (2 * i), p2, UInt8.toNat_ofNat', UInt8.toNat_ofNat']
    generalize e.getD i 0 = x at hei
    have e1 : (((x % 256).toNat % 2 ^ 8 : Nat) : Int) = x % 256 := by omega
    have e2 : (((x / 2 ^ 8 % 256).toNat % 2 ^ 8 : Nat) : Int) = x / 256 := by omega
    have e0 : (((0 : UInt8).toNat : Nat) : Int) = 0 := rfl
    rw [e1, e2, e0, Int.sub_zero, Int.sub_zero]
    have e3 : x * 65536 ^ i = x % 256 * 65536 ^ i + x / 256 * (65536 ^ i * 256) := by
      conv => lhs; rw [← Int.emod_add_mul_ediv x 256, Int.add_mul]
      rw [Int.mul_comm 256, Int.mul_assoc, Int.mul_comm 256]
    omega
def keyL (v : List Int) : List UInt8 := keySt (subN (carryN v 3) 2) 16
theorem keyL_length (v : List Int) : (keyL v).length = 32 := keySt_length _ 16
/-- a number's bytes are those of the least number that stands for it -/
theorem keyL_leZ {v : List Int} (h : okE v) : leZ (keyL v) = valI v % pZ := by
  obtain ⟨h1, h2⟩ := carry3 h
  rw [keyL, keySt_val (subN_dig h1 2) 16 (by omega), List.take_of_length_le (by rw [(subN_dig h1 2).1]; omega), sub2 h1, h2]
end Go.PBYtabmfndiepmcgaa
end
section
namespace Go.Proofs.Ytabmfndiepmcgaa
open Go.RowKit Go.PBYtabmfndiepmcgaa
set_option linter.unusedVariables false
set_option linter.unusedSimpArgs false
set_option maxRecDepth 10000
theorem i64s_atT {l : List Int} {j : Nat} (h : j < l.length) : (i64s l).toArray[j]? = some (vI (l.getD j 0)) := by
  rw [List.getElem?_toArray]
  exact i64s_at h
theorem cSt_lt (v : List Int) {i : Nat} (h : i < 15) : cSt v (i + 1) = ((cSt v i).set i ((cSt v i).getD i 0 - (cSt v i).getD i 0 / 2 ^ 16 * 2 ^ 16)).set (i + 1) (((cSt v i).set i ((cSt v i).getD i 0 - (cSt v i).getD i 0 / 2 ^ 16 * 2 ^ 16)).getD (i + 1) 0 + (cSt v i).getD i 0 / 2 ^ 16) := by
  conv => lhs; unfold cSt
  exact if_pos h
theorem cSt_ge (v : List Int) {i : Nat} (h : ¬ i < 15) : cSt v (i + 1) = ((cSt v i).set i ((cSt v i).getD i 0 - (cSt v i).getD i 0 / 2 ^ 16 * 2 ^ 16)).set 0 (((cSt v i).set i ((cSt v i).getD i 0 - (cSt v i).getD i 0 / 2 ^ 16 * 2 ^ 16)).getD 0 0 + 38 * ((cSt v i).getD i 0 / 2 ^ 16)) := by
  conv => lhs; unfold cSt
  exact if_neg h
set_option maxHeartbeats 2000000 in
theorem carry_calls {S : List Nat} {w0 : World} {R : List Res} (v : List Int) (b : Nat) (hv : v.length = 16) (hM : ∀ j, j < 16 → -1152921504606846976 ≤ v.getD j 0 ∧ v.getD j 0 ≤ 1152921504606846976) (w : World) (H : St S w0 (.blk b 78 (i64s v) :: R) w) :
    Calls Try.prog 62 #[vP b 0] w fun e w' => e = .returned (.tuple #[]) ∧ St S w0 (.blk b 78 (i64s (carryL v)) :: R) w' := by
  have hcb := cOut_bound (K := 35184372088832) hM (by omega) (by omega)
  refine enter (n := 52) (R := fun e L => e = .returned (.tuple #[]) ∧ L = .blk b 78 (i64s (carryL v)) :: R) [vP b 0] Try.func62 rfl rfl rfl H ?_ (fun e w' L' h H => ⟨h.1, h.2 ▸ H⟩)
  refine VC_seq ?_
  refine VC_region ?_
  refine vl_v (q_move rfl) rfl ?_
  refine vl_nil ?_
  refine (th_n ?_)
  refine VC_block ?_
  refine VC_loop (ι := Nat) (fun i => i ≤ 16) (fun i => [(0, vP b 0), (4, vN i)]) (fun i => .blk b 78 (i64s (cSt v i)) :: R) (fun i => 16 - i) 0 (by omega) (Sub.cons (s := 0) rfl (Sub.cons (s := 4) rfl (Sub.nil _))) (fun w H => H) ?_
  rintro i hp
  have hl := (cSt_length v i).trans hv
  refine VC_seq ?_
  refine VC_region ?_
  refine vl_v (q_lss_n (q := 16) Try.underlying3 rfl rfl) rfl ?_
  refine vl_nil ?_
  refine (th_n ?_)
  refine VC_seq ?_
  refine VC_cond rfl (fun ht5 => ?_) (fun ht5 => ?_)
  · skip
    have ht5 := of_decide_eq_true ht5
    refine VC_skip ?_
    refine (th_n ?_)
    refine VC_seq ?_
    refine VC_block ?_
    refine VC_seq ?_
    refine VC_region ?_
    refine vl_v (q_move rfl) rfl ?_
    refine vl_v (q_assign rfl) rfl ?_
    refine vl_nil ?_
    refine (th_n ?_)
    refine VC_seq ?_
    refine VC_region ?_
    have ht5 : i < 16 := ht5
    have hg := cSt_get hv i (by omega) i ht5
    rw [if_neg (by omega), if_pos rfl] at hg
    have hMi := hM i ht5
    have hci := hcb i (by omega)
    refine vl_v (q_move rfl) rfl ?_
    refine vl_v (q_move rfl) rfl ?_
    refine vl_v (q_nilck rfl) rfl ?_
    refine vl_v (q_fldA fo78_0 (by decide) rfl rfl) rfl ?_
    refine vl_v (q_idxA Try.underlying76 sz2 rfl rfl (by omega) (r := _) (by rw [Nat.mul_one, Nat.zero_add])) rfl ?_
    refine vl_v (q_load 0 Try.underlying2 rfl rfl rfl (i64s_at (by omega))) rfl ?_
    refine vl_v (q_shr_i (m := 16) rfl rfl (by decide)) rfl ?_
    refine vl_v (q_assign rfl) rfl ?_
    refine vl_nil ?_
    refine (th_n ?_)
    refine VC_seq ?_
    refine VC_drawV 11 [[], [], [0], [2], [3, 1], [4], [], [6], [5, 7], [0], [9], [10, 1, 0, 2, 3, 4, 5, 6, 7, 8], [11, 8, 0, 1, 2, 3, 4, 5, 6, 7]] [[], [], [0], [0, 2], [0, 1, 2, 3], [0, 1, 2, 3, 4], [], [6], [0, 1, 2, 3, 4, 5, 6, 7], [0], [0, 9], [0, 1, 2, 3, 4, 5, 6, 7, 8, 9, 10], [0, 1, 2, 3, 4, 5, 6, 7, 8, 9, 10, 11]] rfl (by kernel_rfl) ?_
    refine qv_v (q_move rfl) ?_
    refine qv_v (q_move rfl) ?_
    refine qv_v (q_nilck rfl) ?_
    refine qv_v (q_fldA fo78_0 (by decide) rfl rfl) ?_
    refine qv_v (q_idxA Try.underlying76 sz2 rfl rfl (by omega) (r := _) (by rw [Nat.mul_one, Nat.zero_add])) ?_
    refine qv_v (q_load 0 Try.underlying2 rfl rfl rfl (i64s_at (by omega))) ?_
    refine qv_v (q_move rfl) ?_
    refine qv_v (q_shl_i (m := 16) rfl rfl (by decide) (by omega) (by omega)) ?_
    refine qv_v (q_sub_i rfl rfl (by omega) (by omega)) ?_
    refine qv_v (q_nilck rfl) ?_
    refine qv_v (q_fldA fo78_0 (by decide) rfl rfl) ?_
    refine qv_end ?_
    refine VL.keep (Sub.cons (s := 0) rfl (Sub.cons (s := 4) rfl (Sub.cons (s := 5) rfl (Sub.cons (s := 2) rfl (Sub.cons (s := 3) rfl (Sub.cons (s := 15) rfl (Sub.cons (s := 22) rfl (Sub.cons (s := 24) rfl (Sub.nil _))))))))) ?_
    refine vl_v (q_idxA Try.underlying76 sz2 rfl rfl (by omega) (r := _) (by rw [Nat.mul_one, Nat.zero_add])) rfl ?_
    refine l_stI 0 rfl rfl rfl sz2 (by omega) ?_
    simp only [List.set_cons_zero, List.set_cons_succ]
    refine vl_nil ?_
    refine (qn_n (th_n ?_))
    refine VC_seq ?_
    refine VC_region ?_
    refine vl_v (q_move rfl) rfl ?_
    refine vl_v (q_lss_n (q := 15) Try.underlying3 rfl rfl) rfl ?_
    refine vl_nil ?_
    refine (th_n ?_)
    refine VC_cond rfl (fun ht27 => ?_) (fun ht27 => ?_)
    · skip
      have ht27 := of_decide_eq_true ht27
      have ht27 : i < 15 := ht27
      have hg1 := cSt_get hv i (by omega) (i + 1) (by omega)
      rw [if_neg (by omega), if_neg (by omega)] at hg1
      have hM1 := hM (i + 1) (by omega)
      have hs1 : ((cSt v i).set i ((cSt v i).getD i 0 - (cSt v i).getD i 0 / 2 ^ 16 * 2 ^ 16)).getD (i + 1) 0 = (cSt v i).getD (i + 1) 0 := by rw [getD_set _ _ _ _ _ (by omega), if_neg (by omega)]
      refine VC_drawV 11 [[], [], [1], [0], [3], [4, 2], [5], [], [6, 7], [0], [9], [10, 2, 0, 1, 3, 4, 5, 6, 7, 8], [11, 8, 0, 1, 2, 3, 4, 5, 6, 7]] [[], [], [1], [0], [0, 3], [0, 1, 2, 3, 4], [0, 1, 2, 3, 4, 5], [], [0, 1, 2, 3, 4, 5, 6, 7], [0], [0, 9], [0, 1, 2, 3, 4, 5, 6, 7, 8, 9, 10], [0, 1, 2, 3, 4, 5, 6, 7, 8, 9, 10, 11]] rfl (by kernel_rfl) ?_
      refine qv_v (q_move rfl) ?_
      refine qv_v (q_move rfl) ?_
      refine qv_v (q_add_n (q := 1) rfl rfl (by omega)) ?_
      refine qv_v (q_nilck rfl) ?_
      refine qv_v (q_fldA fo78_0 (by decide) rfl rfl) ?_
      refine qv_v (q_idxA Try.underlying76 sz2 rfl rfl (by omega) (r := _) (by rw [Nat.mul_one, Nat.zero_add])) ?_
      refine qv_v (q_load 0 Try.underlying2 rfl rfl rfl (i64s_at (by simp only [zs, zr, zm, za, zb, zu, zw, zi, zt, zd, zc, zn, *] <;> first | done | omega))) ?_
      refine qv_v (q_move rfl) ?_
      refine qv_v (q_add_i rfl rfl (by omega) (by omega)) ?_
      refine qv_v (q_nilck rfl) ?_
      refine qv_v (q_fldA fo78_0 (by decide) rfl rfl) ?_
      refine qv_end ?_
      refine VL.keep (Sub.cons (s := 0) rfl (Sub.cons (s := 4) rfl (Sub.cons (s := 5) rfl (Sub.cons (s := 2) rfl (Sub.cons (s := 3) rfl (Sub.cons (s := 27) rfl (Sub.cons (s := 30) rfl (Sub.cons (s := 36) rfl (Sub.cons (s := 38) rfl (Sub.nil _)))))))))) ?_
      refine vl_v (q_idxA Try.underlying76 sz2 rfl rfl (by omega) (r := _) (by rw [Nat.mul_one, Nat.zero_add])) rfl ?_
      refine l_stI 0 rfl rfl rfl sz2 (by simp only [zs, zr, zm, za, zb, zu, zw, zi, zt, zd, zc, zn, *] <;> first | done | omega) ?_
      simp only [List.set_cons_zero, List.set_cons_succ]
      refine vl_nil ?_
      refine (qn_n (bl_n (th_n ?_)))
      refine VC_region ?_
      refine vl_v (q_add_n (q := 1) rfl rfl (by omega)) rfl ?_
      refine vl_v (q_move rfl) rfl ?_
      refine vl_nil ?_
      refine (th_n ?_)
      refine ⟨i + 1, by omega, by omega, (Sub.cons (s := 0) rfl (Sub.cons (s := 4) rfl (Sub.nil _))), fun w H => by first | (rw [cSt_lt v (by omega)]; exact H) | (rw [cSt_ge v (by omega)]; exact H)⟩
    · skip
      have ht27 := of_decide_eq_false ht27
      have hi15 : i = 15 := by omega
      have hg1 := cSt_get hv i (by omega) 0 (by omega)
      rw [if_pos (by omega)] at hg1
      have hl2 : ((cSt v i).set i ((cSt v i).getD i 0 - (cSt v i).getD i 0 / 2 ^ 16 * 2 ^ 16)).length = 16 := by rw [List.length_set, hl]
      have hs1 : ((cSt v i).set i ((cSt v i).getD i 0 - (cSt v i).getD i 0 / 2 ^ 16 * 2 ^ 16)).getD 0 0 = (cSt v i).getD 0 0 := by rw [getD_set _ _ _ _ _ (by omega), if_neg (by omega)]
      refine VC_drawV 10 [[], [0], [1], [2], [3], [], [5], [4, 6], [0], [8], [9, 0, 1, 2, 3, 4, 5, 6, 7], [10, 7, 0, 1, 2, 3, 4, 5, 6]] [[], [0], [0, 1], [0, 1, 2], [0, 1, 2, 3], [], [5], [0, 1, 2, 3, 4, 5, 6], [0], [0, 8], [0, 1, 2, 3, 4, 5, 6, 7, 8, 9], [0, 1, 2, 3, 4, 5, 6, 7, 8, 9, 10]] rfl (by kernel_rfl) ?_
      refine qv_v (q_move rfl) ?_
      refine qv_v (q_nilck rfl) ?_
      refine qv_v (q_fldA fo78_0 (by decide) rfl rfl) ?_
      refine qv_v (q_idxA (m := 0) Try.underlying76 sz2 rfl rfl (by omega) (r := _) (by rw [Nat.mul_one, Nat.zero_add])) ?_
      refine qv_v (q_load 0 Try.underlying2 rfl rfl rfl (i64s_at (by omega))) ?_
      refine qv_v (q_move rfl) ?_
      refine qv_v (q_mul_i rfl rfl (by omega) (by omega)) ?_
      refine qv_v (q_add_i rfl rfl (by omega) (by omega)) ?_
      refine qv_v (q_nilck rfl) ?_
      refine qv_v (q_fldA fo78_0 (by decide) rfl rfl) ?_
      refine qv_end ?_
      refine VL.keep (Sub.cons (s := 0) rfl (Sub.cons (s := 4) rfl (Sub.cons (s := 5) rfl (Sub.cons (s := 2) rfl (Sub.cons (s := 3) rfl (Sub.cons (s := 27) rfl (Sub.cons (s := 47) rfl (Sub.cons (s := 49) rfl (Sub.nil _))))))))) ?_
      refine vl_v (q_idxA (m := 0) Try.underlying76 sz2 rfl rfl (by omega) (r := _) (by rw [Nat.mul_one, Nat.zero_add])) rfl ?_
      refine l_stI 0 rfl rfl rfl sz2 (by omega) ?_
      simp only [List.set_cons_zero, List.set_cons_succ]
      refine vl_nil ?_
      refine (qn_n (bl_n (th_n ?_)))
      refine VC_region ?_
      refine vl_v (q_add_n (q := 1) rfl rfl (by omega)) rfl ?_
      refine vl_v (q_move rfl) rfl ?_
      refine vl_nil ?_
      refine (th_n ?_)
      refine ⟨i + 1, by omega, by omega, (Sub.cons (s := 0) rfl (Sub.cons (s := 4) rfl (Sub.nil _))), fun w H => by first | (rw [cSt_lt v (by omega)]; exact H) | (rw [cSt_ge v (by omega)]; exact H)⟩
  · skip
    have ht5 := of_decide_eq_false ht5
    obtain rfl : i = 16 := by omega
    refine VC_exit ?_
    refine (th_x (th_x (bl_xs ?_)))
    refine ⟨_, res0 rfl, ?_⟩
    exact ⟨rfl, rfl⟩
end Go.Proofs.Ytabmfndiepmcgaa
end
