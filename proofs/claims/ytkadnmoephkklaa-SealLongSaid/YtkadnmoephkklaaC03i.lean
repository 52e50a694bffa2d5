/- The document's own blake: a block goes into the words, last = true. No condition. -/
import Derived.Test.YtkadnmoephkklaaC03h
namespace Go.Proofs.Ytkadnmoephkklaa
open Go.RowKit Go.PBYtkadnmoephkklaa
set_option linter.unusedVariables false
set_option linter.unusedSimpArgs false
set_option maxRecDepth 10000

set_option maxHeartbeats 4000000 in
theorem rinto_true (h : List UInt32) (blk : List UInt8) (n : Nat) (Ah Ab : Option Addr) (ch cb : Nat) (hh : h.length = 8) (hb : blk.length = 64) (hch : 8 ≤ ch) (hcb : 64 ≤ cb) (hn : n < 9223372036854775808) (w : World) (hA : SlAt w Ah (u32s h)) (hB : SlAt w Ab (bys blk)) :
    Calls Try.prog 61 #[.slice Ah 8 ch, .slice Ab 64 cb, vN n, .bool true] w fun e w' => ∃ v, e = .returned v ∧ St [] w [.row 56 1 v 8 (u32s (into h blk (UInt64.ofNat n) true))] w' := by
  have htt : (UInt64.ofNat n).toNat = n := by rw [UInt64.toNat_ofNat']; omega
  have hm16 := rwW_length blk 16
  have hv0 := vBeg_length h (UInt64.ofNat n) true
  rw [hh] at hv0
  obtain ⟨v0, hve⟩ : ∃ v, v = vBeg h (UInt64.ofNat n) true := ⟨_, rfl⟩
  rw [← hve] at hv0
  obtain ⟨m16, hme⟩ : ∃ v, v = rwW blk 16 := ⟨_, rfl⟩
  rw [← hme] at hm16
  refine enter (n := 209) (R := fun e L => ∃ v M, e = .returned v ∧ L = .row 56 1 v 8 (u32s (into h blk (UInt64.ofNat n) true)) :: M) [.slice Ah 8 ch, .slice Ab 64 cb, vN n, .bool true] Try.func61 rfl rfl rfl (St.refl w) ?_ endRow
  refine VC_seq ?_
  refine VC_region ?_
  refine vl_v (q_assign rfl) rfl ?_
  refine vl_nil ?_
  refine (th_n ?_)
  refine VC_seq ?_
  refine VC_region ?_
  refine l_litA (cs := u32s []) Try.underlying82 in56 (by decide) rfl rfl rfl rfl (by first | (with_reducible first | exact bys_one _ | exact u32s_one _ | exact u64s_one _ | exact i64s_one _ | exact n64s_one _ | assumption) | exact bys_one _ | exact u32s_one _ | exact u64s_one _ | exact i64s_one _ | exact one_all rfl | (refine app_one ?_ ?_ <;> first | exact bys_one _ | (simp; done))) rfl rfl ?_
  intro b17
  refine vl_v (q_move rfl) rfl ?_
  refine l_append 0 rfl rfl rfl Try.underlying82 Try.underlying82 in56 rfl (by decide) (Reads.old hA) (by first | omega | with_reducible assumption | (simp only [u32s_length, i64s_length, List.length_append]; omega) | (simp only [List.length_set, u32s_length, *] <;> first | done | omega) | rfl) (by first | (with_reducible first | exact bys_one _ | exact u32s_one _ | exact u64s_one _ | exact i64s_one _ | exact n64s_one _ | assumption) | exact bys_one _ | exact u32s_one _ | exact u64s_one _ | exact i64s_one _ | exact one_all rfl | (refine app_one ?_ ?_ <;> first | exact bys_one _ | (simp; done))) (by first | omega | with_reducible assumption | (simp only [u32s_length, i64s_length, List.length_append]; omega) | (simp only [List.length_set, u32s_length, *] <;> first | done | omega) | rfl) (by first | omega | with_reducible assumption | (simp only [u32s_length, i64s_length, List.length_append]; omega) | (simp only [List.length_set, u32s_length, *] <;> first | done | omega) | rfl) rfl ?_
  intro A19 c19 hc19
  simp only [List.set_cons_zero, List.set_cons_succ, ← bys_append, ← u32s_append, ← u64s_append, ← i64s_append, List.nil_append, Nat.zero_add]
  refine l_callR Try.func59 rfl rfl rfl (fun w1 H1 => rfirst_calls w1) rfl ?_
  intro A20 c20 hc20 hm20
  refine l_append 1 rfl rfl rfl Try.underlying82 Try.underlying82 in56 rfl (by decide) (Reads.row 0 rfl) (by first | omega | with_reducible assumption | (simp only [u32s_length, i64s_length, List.length_append]; omega) | (simp only [List.length_set, u32s_length, *] <;> first | done | omega) | rfl) (by first | (with_reducible first | exact bys_one _ | exact u32s_one _ | exact u64s_one _ | exact i64s_one _ | exact n64s_one _ | assumption) | exact bys_one _ | exact u32s_one _ | exact u64s_one _ | exact i64s_one _ | exact one_all rfl | (refine app_one ?_ ?_ <;> first | exact bys_one _ | (simp; done))) (by first | omega | with_reducible assumption | (simp only [u32s_length, i64s_length, List.length_append]; omega) | (simp only [List.length_set, u32s_length, *] <;> first | done | omega) | rfl) (by first | omega | with_reducible assumption | (simp only [u32s_length, i64s_length, List.length_append]; omega) | (simp only [List.length_set, u32s_length, *] <;> first | done | omega) | rfl) rfl ?_
  intro A21 c21 hc21
  simp only [List.set_cons_zero, List.set_cons_succ, ← bys_append, ← u32s_append, ← u64s_append, ← i64s_append, List.nil_append, Nat.zero_add]
  refine vl_v (q_assign rfl) rfl ?_
  refine vl_nil ?_
  refine (th_n ?_)
  refine VC_seq ?_
  refine VC_pickL (ks := [1]) (by decide) rfl ?_
  refine VC_rowBlk (by omega) ?_
  intro bW more eW
  subst eW
  have hhiv : (h ++ iv).length = 16 := by rw [List.length_append, hh]; rfl
  refine VC_region ?_
  refine vl_v (q_move rfl) rfl ?_
  refine vl_v (q_move rfl) rfl ?_
  refine vl_v (q_idxS0 (m := 12) Try.underlying82 sz56 rfl rfl (by omega) (by rw [Nat.mul_one, Nat.zero_add])) rfl ?_
  first | (refine vl_v (q_load 0 Try.underlying56 rfl rfl rfl (u32s_atA (by first | omega | with_reducible assumption | (simp only [u32s_length, i64s_length, List.length_append]; omega) | (simp only [List.length_set, u32s_length, *] <;> first | done | omega) | rfl))) rfl ?_) | (refine vl_v (q_load 0 Try.underlying56 rfl rfl rfl rfl) rfl ?_)
  refine vl_v (q_move rfl) rfl ?_
  refine vl_v (q_conv_k (r := ((UInt32.ofNat (UInt64.ofNat n).toNat).toNat : Int)) Try.underlying3 Try.underlying56 rfl (by rw [htt, IntKind.wrap_u32, UInt32.toNat_ofNat']; omega)) rfl ?_
  refine vl_v (q_xor_u32 rfl rfl) rfl ?_
  refine vl_v (q_idxS0 (m := 12) Try.underlying82 sz56 rfl rfl (by omega) (by rw [Nat.mul_one, Nat.zero_add])) rfl ?_
  first | (refine l_stU32A 0 rfl rfl rfl sz56 (by first | omega | with_reducible assumption | (simp only [u32s_length, i64s_length, List.length_append]; omega) | (simp only [List.length_set, u32s_length, *] <;> first | done | omega) | rfl) ?_) | (refine l_store1 0 rfl rfl rfl sz56 rfl (by first | decide | simp) ?_)
  simp only [List.set_cons_zero, List.set_cons_succ]
  refine vl_nil ?_
  refine (th_n ?_)
  refine VC_seq ?_
  refine VC_region ?_
  refine vl_v (q_move rfl) rfl ?_
  refine vl_v (q_move rfl) rfl ?_
  refine vl_v (q_idxS0 (m := 13) Try.underlying82 sz56 rfl rfl (by omega) (by rw [Nat.mul_one, Nat.zero_add])) rfl ?_
  first | (refine vl_v (q_load 0 Try.underlying56 rfl rfl rfl (u32s_atA (by first | omega | with_reducible assumption | (simp only [u32s_length, i64s_length, List.length_append]; omega) | (simp only [List.length_set, u32s_length, *] <;> first | done | omega) | rfl))) rfl ?_) | (refine vl_v (q_load 0 Try.underlying56 rfl rfl rfl rfl) rfl ?_)
  refine vl_v (q_move rfl) rfl ?_
  refine vl_v (q_conv_k (r := ((UInt64.ofNat n).toNat : Int)) Try.underlying3 Try.underlying61 rfl (by rw [htt, IntKind.wrap_u64]; omega)) rfl ?_
  refine vl_v (q_as (v := vU64 (UInt64.ofNat ((UInt64.ofNat n).toNat / 2 ^ 32))) (q_shr_u64 (p := UInt64.ofNat n) (m := 32) rfl rfl) rfl) rfl ?_
  refine vl_v (q_conv_k (r := ((UInt32.ofNat ((UInt64.ofNat n).toNat / 2 ^ 32)).toNat : Int)) Try.underlying61 Try.underlying56 rfl (by rw [IntKind.wrap_u32, UInt32.toNat_ofNat', UInt64.toNat_ofNat', htt]; omega)) rfl ?_
  refine vl_v (q_xor_u32 rfl rfl) rfl ?_
  refine vl_v (q_idxS0 (m := 13) Try.underlying82 sz56 rfl rfl (by omega) (by rw [Nat.mul_one, Nat.zero_add])) rfl ?_
  first | (refine l_stU32A 0 rfl rfl rfl sz56 (by first | omega | with_reducible assumption | (simp only [u32s_length, i64s_length, List.length_append]; omega) | (simp only [List.length_set, u32s_length, *] <;> first | done | omega) | rfl) ?_) | (refine l_store1 0 rfl rfl rfl sz56 rfl (by first | decide | simp) ?_)
  simp only [List.set_cons_zero, List.set_cons_succ]
  refine vl_nil ?_
  refine (th_n ?_)
  refine VC_seq ?_
  refine VC_seq ?_
  refine VC_region ?_
  refine vl_v (q_move rfl) rfl ?_
  refine vl_nil ?_
  refine (th_n ?_)
  refine VC_yes (rfl) ?_
  refine VC_region ?_
  refine vl_v (q_move rfl) rfl ?_
  refine vl_v (q_move rfl) rfl ?_
  refine vl_v (q_idxS0 (m := 14) Try.underlying82 sz56 rfl rfl (by omega) (by rw [Nat.mul_one, Nat.zero_add])) rfl ?_
  first | (refine vl_v (q_load 0 Try.underlying56 rfl rfl rfl (u32s_atA (by first | omega | with_reducible assumption | (simp only [u32s_length, i64s_length, List.length_append]; omega) | (simp only [List.length_set, u32s_length, *] <;> first | done | omega) | rfl))) rfl ?_) | (refine vl_v (q_load 0 Try.underlying56 rfl rfl rfl rfl) rfl ?_)
  refine vl_v (q_xorUn_u32 rfl) rfl ?_
  refine vl_v (q_idxS0 (m := 14) Try.underlying82 sz56 rfl rfl (by omega) (by rw [Nat.mul_one, Nat.zero_add])) rfl ?_
  first | (refine l_stU32A 0 rfl rfl rfl sz56 (by first | omega | with_reducible assumption | (simp only [u32s_length, i64s_length, List.length_append]; omega) | (simp only [List.length_set, u32s_length, *] <;> first | done | omega) | rfl) ?_) | (refine l_store1 0 rfl rfl rfl sz56 rfl (by first | decide | simp) ?_)
  simp only [List.set_cons_zero, List.set_cons_succ]
  refine vl_nil ?_
  refine (th_n ?_)
  refine VC_seq ?_
  refine VC_region ?_
  refine vl_v (q_assign rfl) rfl ?_
  refine vl_nil ?_
  refine (th_n ?_)
  refine VC_seq ?_
  refine VC_seq ?_
  refine VC_nilRow 56 1 ?_
  refine VC_region ?_
  refine vl_v (q_assign rfl) rfl ?_
  refine vl_nil ?_
  refine (th_n ?_)
  refine VC_block ?_
  refine VC_loop (ι := Nat × Option Addr × Nat) (fun q => q.1 ≤ 16) (fun q => [(0, .slice Ah 8 ch), (1, .slice Ab 64 cb), (9, .slice (some ⟨bW, 0, none⟩) 16 c21), (10, .slice q.2.1 q.1 q.2.2), (11, vN q.1)]) (fun q => [.row 56 1 (.slice q.2.1 q.1 q.2.2) q.1 (u32s (rwW blk q.1)), .blk bW 56 (u32s v0 ++ more)]) (fun q => 16 - q.1) (0, none, 0) (by omega) (Sub.cons (s := 0) rfl (Sub.cons (s := 1) rfl (Sub.cons (s := 9) rfl (Sub.cons (s := 10) rfl (Sub.cons (s := 11) rfl (Sub.nil _)))))) (fun w' H => by rw [hve]; exact H) ?_
  rintro ⟨i, B, d⟩ hp
  simp only at hp
  refine VC_seq ?_
  refine VC_seq ?_
  refine VC_region ?_
  refine vl_v (q_move rfl) rfl ?_
  first | (refine vl_v (q_lss_n (q := 16) Try.underlying3 rfl rfl) rfl ?_) | (refine vl_v (q_lss_k Try.underlying3 rfl rfl) rfl ?_)
  refine vl_nil ?_
  refine (th_n ?_)
  refine VC_cond rfl (fun ht48 => ?_) (fun ht48 => ?_)
  · skip
    have ht48 := of_decide_eq_true ht48
    simp only at ht48
    have hl := rwW_length blk i
    refine VC_skip ?_
    refine (th_n ?_)
    refine VC_seq ?_
    refine VC_block ?_
    refine VC_region ?_
    refine vl_v (q_move rfl) rfl ?_
    refine vl_v (q_move rfl) rfl ?_
    refine vl_v (q_move rfl) rfl ?_
    first | (refine vl_v (q_mul_n (p := 4) rfl rfl (by omega)) rfl ?_) | (refine vl_v (q_mul_i rfl rfl (by omega) (by omega)) rfl ?_)
    refine vl_v (q_move rfl) rfl ?_
    first | (refine vl_v (q_mul_n (p := 4) rfl rfl (by omega)) rfl ?_) | (refine vl_v (q_mul_i rfl rfl (by omega) (by omega)) rfl ?_)
    first | (refine vl_v (q_add_n (q := 4) rfl rfl (by omega)) rfl ?_) | (refine vl_v (q_add_i rfl rfl (by omega) (by omega)) rfl ?_)
    refine vl_v (q_slcS Try.underlying24 sz5 rfl ⟨_, rfl⟩ ⟨_, rfl⟩ rfl (.inl rfl) (by omega) (by omega) (by omega)) rfl ?_
    refine vl_v (q_callV Try.func70 rfl rfl rfl (fun w1 H1 => rofA blk _ (4 * i) _ _ _ w1 (H1.sl0 hB) (by omega) (by omega) (by omega) (by omega) (by omega))) rfl ?_
    refine vl_v (q_as (v := vU32 (word32 (blk.drop (4 * i)))) (q_conv_nu32 Try.underlying61 Try.underlying56 rfl) rfl) rfl ?_
    refine l_litA (cs := u32s [_]) Try.underlying82 in56 (by decide) rfl rfl rfl rfl (by first | (with_reducible first | exact bys_one _ | exact u32s_one _ | exact u64s_one _ | exact i64s_one _ | exact n64s_one _ | assumption) | exact bys_one _ | exact u32s_one _ | exact u64s_one _ | exact i64s_one _ | exact one_all rfl | (refine app_one ?_ ?_ <;> first | exact bys_one _ | (simp; done))) rfl rfl ?_
    intro b61
    refine l_append 1 rfl rfl rfl Try.underlying82 Try.underlying82 in56 rfl (by decide) (Reads.row 0 rfl) (by first | omega | with_reducible assumption | (simp only [u32s_length, i64s_length, List.length_append]; omega) | (simp only [List.length_set, u32s_length, *] <;> first | done | omega) | rfl) (by first | (with_reducible first | exact bys_one _ | exact u32s_one _ | exact u64s_one _ | exact i64s_one _ | exact n64s_one _ | assumption) | exact bys_one _ | exact u32s_one _ | exact u64s_one _ | exact i64s_one _ | exact one_all rfl | (refine app_one ?_ ?_ <;> first | exact bys_one _ | (simp; done))) (by first | omega | with_reducible assumption | (simp only [u32s_length, i64s_length, List.length_append]; omega) | (simp only [List.length_set, u32s_length, *] <;> first | done | omega) | rfl) (by first | omega | with_reducible assumption | (simp only [u32s_length, i64s_length, List.length_append]; omega) | (simp only [List.length_set, u32s_length, *] <;> first | done | omega) | rfl) rfl ?_
    intro A62 c62 hc62
    simp only [List.set_cons_zero, List.set_cons_succ, ← bys_append, ← u32s_append, ← u64s_append, ← i64s_append, List.nil_append, Nat.zero_add]
    refine vl_v (q_assign rfl) rfl ?_
    refine vl_nil ?_
    refine (bl_n (th_n ?_))
    refine VC_region ?_
    refine vl_v (q_move rfl) rfl ?_
    first | (refine vl_v (q_add_n (q := 1) rfl rfl (by omega)) rfl ?_) | (refine vl_v (q_add_i rfl rfl (by omega) (by omega)) rfl ?_)
    refine vl_v (q_assign rfl) rfl ?_
    refine vl_nil ?_
    refine (th_n ?_)
    refine ⟨(i + 1, A62, c62), by simp only; omega, by simp only; omega, (Sub.cons (s := 0) rfl (Sub.cons (s := 1) rfl (Sub.cons (s := 9) rfl (Sub.cons (s := 10) rfl (Sub.cons (s := 11) rfl (Sub.nil _)))))), fun w H => St.pick H (ks := [1, 2]) (by decide) rfl⟩
  · skip
    have ht48 := of_decide_eq_false ht48
    simp only at ht48
    obtain rfl : i = 16 := by omega
    rw [← hme]
    refine VC_exit ?_
    refine (th_x (th_x (bl_xs (th_n ?_))))
    refine VC_seq ?_
    refine VC_region ?_
    refine l_call Try.func71 rfl rfl rfl (fun w1 H1 => rrows_more w1 H1) rfl ?_
    rintro v63 L63 ⟨A63, c63, bf, rfl, hc63, rfl⟩
    have hrv := rvals_length bf
    refine vl_v (q_assign rfl) rfl ?_
    refine vl_nil ?_
    refine (th_n ?_)
    refine VC_seq ?_
    refine VC_seq ?_
    refine VC_region ?_
    refine vl_v (q_assign rfl) rfl ?_
    refine vl_nil ?_
    refine (th_n ?_)
    refine VC_block ?_
    refine VC_loop (ι := Nat) (fun r => r ≤ 10) (fun r => [(0, .slice Ah 8 ch), (9, .slice (some ⟨bW, 0, none⟩) 16 c21), (10, .slice B 16 d), (12, .slice A63 10 c63), (13, vN r)]) (fun r => .blk bW 56 (u32s (rndsM v0 m16 r) ++ more) :: .row 56 1 (.slice B 16 d) 16 (u32s m16) :: .row 103 1 (.slice A63 10 c63) 10 (rvals bf) :: rowsR bf) (fun r => 10 - r) 0 (by omega) (Sub.cons (s := 0) rfl (Sub.cons (s := 9) rfl (Sub.cons (s := 10) rfl (Sub.cons (s := 12) rfl (Sub.cons (s := 13) rfl (Sub.nil _)))))) (fun w' H => H.perm (List.Perm.swap _ _ _)) ?_
    rintro r hp
    have hrl := (rndsM_length v0 m16 r).trans hv0
    refine VC_seq ?_
    refine VC_seq ?_
    refine VC_region ?_
    refine vl_v (q_move rfl) rfl ?_
    refine vl_v (q_move rfl) rfl ?_
    refine vl_v (q_lenS Try.underlying101 rfl) rfl ?_
    first | (refine vl_v (q_lss_n Try.underlying3 rfl rfl) rfl ?_) | (refine vl_v (q_lss_k Try.underlying3 rfl rfl) rfl ?_)
    refine vl_nil ?_
    refine (th_n ?_)
    refine VC_cond rfl (fun ht67 => ?_) (fun ht67 => ?_)
    · skip
      have ht67 := of_decide_eq_true ht67
      have hr9 : r < 10 := by omega
      have hri := rints_length hr9
      have s0 : sg r 0 < 16 := sg_lt hr9 (by decide)
      have s1 : sg r 1 < 16 := sg_lt hr9 (by decide)
      have s2 : sg r 2 < 16 := sg_lt hr9 (by decide)
      have s3 : sg r 3 < 16 := sg_lt hr9 (by decide)
      have s4 : sg r 4 < 16 := sg_lt hr9 (by decide)
      have s5 : sg r 5 < 16 := sg_lt hr9 (by decide)
      have s6 : sg r 6 < 16 := sg_lt hr9 (by decide)
      have s7 : sg r 7 < 16 := sg_lt hr9 (by decide)
      have s8 : sg r 8 < 16 := sg_lt hr9 (by decide)
      have s9 : sg r 9 < 16 := sg_lt hr9 (by decide)
      have s10 : sg r 10 < 16 := sg_lt hr9 (by decide)
      have s11 : sg r 11 < 16 := sg_lt hr9 (by decide)
      have s12 : sg r 12 < 16 := sg_lt hr9 (by decide)
      have s13 : sg r 13 < 16 := sg_lt hr9 (by decide)
      have s14 : sg r 14 < 16 := sg_lt hr9 (by decide)
      have s15 : sg r 15 < 16 := sg_lt hr9 (by decide)
      refine VC_skip ?_
      refine (th_n ?_)
      refine VC_seq ?_
      refine VC_block ?_
      refine VC_seq ?_
      refine VC_region ?_
      refine vl_v (q_move rfl) rfl ?_
      refine vl_v (q_move rfl) rfl ?_
      refine vl_v (q_idxRd Try.underlying101 sz103 rfl rfl (by first | omega | with_reducible assumption | (simp only [u32s_length, i64s_length, List.length_append]; omega) | (simp only [List.length_set, u32s_length, *] <;> first | done | omega) | rfl) (Reads.row 2 rfl) (by first | omega | with_reducible assumption | (simp only [u32s_length, i64s_length, List.length_append]; omega) | (simp only [List.length_set, u32s_length, *] <;> first | done | omega) | rfl)) rfl ?_
      refine vl_v (q_loadRd rfl rfl rfl (Reads.row 2 rfl) (rvals_at bf r (by omega))) rfl ?_
      refine vl_v (q_assign rfl) rfl ?_
      refine vl_nil ?_
      refine (th_n ?_)
      refine VC_seq ?_
      refine VC_drawV 13 [[], [], [], [2], [3], [1, 4], [5], [], [], [8], [9], [7, 10], [11], [0, 6, 12]] [[], [], [], [2], [2, 3], [1, 2, 3, 4], [1, 2, 3, 4, 5], [], [], [8], [8, 9], [7, 8, 9, 10], [7, 8, 9, 10, 11], [0, 1, 2, 3, 4, 5, 6, 7, 8, 9, 10, 11, 12]] rfl (by kernel_rfl) ?_
      refine qv_v (q_move rfl) ?_
      refine qv_v (q_move rfl) ?_
      refine qv_v (q_move rfl) ?_
      refine qv_v (q_idxRd (m := 0) Try.underlying103 sz3 rfl rfl (by first | omega | with_reducible assumption | (simp only [u32s_length, i64s_length, List.length_append]; omega) | (simp only [List.length_set, u32s_length, *] <;> first | done | omega) | rfl) (rowsRd bf r (by omega) _ _ _) (by first | omega | with_reducible assumption | (simp only [u32s_length, i64s_length, List.length_append]; omega) | (simp only [List.length_set, u32s_length, *] <;> first | done | omega) | rfl)) ?_
      refine qv_v (q_loadRd rfl rfl rfl (rowsRd bf r (by omega) _ _ _) (rints_at (j := 0) hr9 (by decide))) ?_
      refine qv_v (q_idxRd Try.underlying82 sz56 rfl rfl (by first | omega | with_reducible assumption | (simp only [u32s_length, i64s_length, List.length_append]; omega) | (simp only [List.length_set, u32s_length, *] <;> first | done | omega) | rfl) (Reads.row 1 rfl) (by first | omega | with_reducible assumption | (simp only [u32s_length, i64s_length, List.length_append]; omega) | (simp only [List.length_set, u32s_length, *] <;> first | done | omega) | rfl)) ?_
      refine qv_v (q_loadRd Try.underlying56 rfl rfl (Reads.row 1 rfl) (u32s_at (by first | omega | with_reducible assumption | (simp only [u32s_length, i64s_length, List.length_append]; omega) | (simp only [List.length_set, u32s_length, *] <;> first | done | omega) | rfl))) ?_
      refine qv_v (q_move rfl) ?_
      refine qv_v (q_move rfl) ?_
      refine qv_v (q_idxRd (m := 1) Try.underlying103 sz3 rfl rfl (by first | omega | with_reducible assumption | (simp only [u32s_length, i64s_length, List.length_append]; omega) | (simp only [List.length_set, u32s_length, *] <;> first | done | omega) | rfl) (rowsRd bf r (by omega) _ _ _) (by first | omega | with_reducible assumption | (simp only [u32s_length, i64s_length, List.length_append]; omega) | (simp only [List.length_set, u32s_length, *] <;> first | done | omega) | rfl)) ?_
      refine qv_v (q_loadRd rfl rfl rfl (rowsRd bf r (by omega) _ _ _) (rints_at (j := 1) hr9 (by decide))) ?_
      refine qv_v (q_idxRd Try.underlying82 sz56 rfl rfl (by first | omega | with_reducible assumption | (simp only [u32s_length, i64s_length, List.length_append]; omega) | (simp only [List.length_set, u32s_length, *] <;> first | done | omega) | rfl) (Reads.row 1 rfl) (by first | omega | with_reducible assumption | (simp only [u32s_length, i64s_length, List.length_append]; omega) | (simp only [List.length_set, u32s_length, *] <;> first | done | omega) | rfl)) ?_
      refine qv_v (q_loadRd Try.underlying56 rfl rfl (Reads.row 1 rfl) (u32s_at (by first | omega | with_reducible assumption | (simp only [u32s_length, i64s_length, List.length_append]; omega) | (simp only [List.length_set, u32s_length, *] <;> first | done | omega) | rfl))) ?_
      refine qv_end ?_
      refine VL.keep (Sub.cons (s := 0) rfl (Sub.cons (s := 9) rfl (Sub.cons (s := 10) rfl (Sub.cons (s := 12) rfl (Sub.cons (s := 13) rfl (Sub.cons (s := 67) rfl (Sub.cons (s := 14) rfl (Sub.cons (s := 74) rfl (Sub.cons (s := 80) rfl (Sub.cons (s := 86) rfl (Sub.nil _))))))))))) ?_
      refine l_callE Try.func72 rfl rfl rfl (fun w1 H1 => rmix_calls _ 0 4 8 12 _ _ _ bW (by first | with_reducible exact hrl | (simp only [mixL_length]; exact hrl)) (by decide) (by decide) (by decide) (by decide) w1 H1) rfl ?_
      refine vl_nil ?_
      refine (qn_n (th_n ?_))
      refine VC_seq ?_
      refine VC_drawV 13 [[], [], [], [2], [3], [1, 4], [5], [], [], [8], [9], [7, 10], [11], [0, 6, 12]] [[], [], [], [2], [2, 3], [1, 2, 3, 4], [1, 2, 3, 4, 5], [], [], [8], [8, 9], [7, 8, 9, 10], [7, 8, 9, 10, 11], [0, 1, 2, 3, 4, 5, 6, 7, 8, 9, 10, 11, 12]] rfl (by kernel_rfl) ?_
      refine qv_v (q_move rfl) ?_
      refine qv_v (q_move rfl) ?_
      refine qv_v (q_move rfl) ?_
      refine qv_v (q_idxRd (m := 2) Try.underlying103 sz3 rfl rfl (by first | omega | with_reducible assumption | (simp only [u32s_length, i64s_length, List.length_append]; omega) | (simp only [List.length_set, u32s_length, *] <;> first | done | omega) | rfl) (rowsRd bf r (by omega) _ _ _) (by first | omega | with_reducible assumption | (simp only [u32s_length, i64s_length, List.length_append]; omega) | (simp only [List.length_set, u32s_length, *] <;> first | done | omega) | rfl)) ?_
      refine qv_v (q_loadRd rfl rfl rfl (rowsRd bf r (by omega) _ _ _) (rints_at (j := 2) hr9 (by decide))) ?_
      refine qv_v (q_idxRd Try.underlying82 sz56 rfl rfl (by first | omega | with_reducible assumption | (simp only [u32s_length, i64s_length, List.length_append]; omega) | (simp only [List.length_set, u32s_length, *] <;> first | done | omega) | rfl) (Reads.row 1 rfl) (by first | omega | with_reducible assumption | (simp only [u32s_length, i64s_length, List.length_append]; omega) | (simp only [List.length_set, u32s_length, *] <;> first | done | omega) | rfl)) ?_
      refine qv_v (q_loadRd Try.underlying56 rfl rfl (Reads.row 1 rfl) (u32s_at (by first | omega | with_reducible assumption | (simp only [u32s_length, i64s_length, List.length_append]; omega) | (simp only [List.length_set, u32s_length, *] <;> first | done | omega) | rfl))) ?_
      refine qv_v (q_move rfl) ?_
      refine qv_v (q_move rfl) ?_
      refine qv_v (q_idxRd (m := 3) Try.underlying103 sz3 rfl rfl (by first | omega | with_reducible assumption | (simp only [u32s_length, i64s_length, List.length_append]; omega) | (simp only [List.length_set, u32s_length, *] <;> first | done | omega) | rfl) (rowsRd bf r (by omega) _ _ _) (by first | omega | with_reducible assumption | (simp only [u32s_length, i64s_length, List.length_append]; omega) | (simp only [List.length_set, u32s_length, *] <;> first | done | omega) | rfl)) ?_
      refine qv_v (q_loadRd rfl rfl rfl (rowsRd bf r (by omega) _ _ _) (rints_at (j := 3) hr9 (by decide))) ?_
      refine qv_v (q_idxRd Try.underlying82 sz56 rfl rfl (by first | omega | with_reducible assumption | (simp only [u32s_length, i64s_length, List.length_append]; omega) | (simp only [List.length_set, u32s_length, *] <;> first | done | omega) | rfl) (Reads.row 1 rfl) (by first | omega | with_reducible assumption | (simp only [u32s_length, i64s_length, List.length_append]; omega) | (simp only [List.length_set, u32s_length, *] <;> first | done | omega) | rfl)) ?_
      refine qv_v (q_loadRd Try.underlying56 rfl rfl (Reads.row 1 rfl) (u32s_at (by first | omega | with_reducible assumption | (simp only [u32s_length, i64s_length, List.length_append]; omega) | (simp only [List.length_set, u32s_length, *] <;> first | done | omega) | rfl))) ?_
      refine qv_end ?_
      refine VL.keep (Sub.cons (s := 0) rfl (Sub.cons (s := 9) rfl (Sub.cons (s := 10) rfl (Sub.cons (s := 12) rfl (Sub.cons (s := 13) rfl (Sub.cons (s := 67) rfl (Sub.cons (s := 14) rfl (Sub.cons (s := 88) rfl (Sub.cons (s := 94) rfl (Sub.cons (s := 100) rfl (Sub.nil _))))))))))) ?_
      refine l_callE Try.func72 rfl rfl rfl (fun w1 H1 => rmix_calls _ 1 5 9 13 _ _ _ bW (by first | with_reducible exact hrl | (simp only [mixL_length]; exact hrl)) (by decide) (by decide) (by decide) (by decide) w1 H1) rfl ?_
      refine vl_nil ?_
      refine (qn_n (th_n ?_))
      refine VC_seq ?_
      refine VC_drawV 13 [[], [], [], [2], [3], [1, 4], [5], [], [], [8], [9], [7, 10], [11], [0, 6, 12]] [[], [], [], [2], [2, 3], [1, 2, 3, 4], [1, 2, 3, 4, 5], [], [], [8], [8, 9], [7, 8, 9, 10], [7, 8, 9, 10, 11], [0, 1, 2, 3, 4, 5, 6, 7, 8, 9, 10, 11, 12]] rfl (by kernel_rfl) ?_
      refine qv_v (q_move rfl) ?_
      refine qv_v (q_move rfl) ?_
      refine qv_v (q_move rfl) ?_
      refine qv_v (q_idxRd (m := 4) Try.underlying103 sz3 rfl rfl (by first | omega | with_reducible assumption | (simp only [u32s_length, i64s_length, List.length_append]; omega) | (simp only [List.length_set, u32s_length, *] <;> first | done | omega) | rfl) (rowsRd bf r (by omega) _ _ _) (by first | omega | with_reducible assumption | (simp only [u32s_length, i64s_length, List.length_append]; omega) | (simp only [List.length_set, u32s_length, *] <;> first | done | omega) | rfl)) ?_
      refine qv_v (q_loadRd rfl rfl rfl (rowsRd bf r (by omega) _ _ _) (rints_at (j := 4) hr9 (by decide))) ?_
      refine qv_v (q_idxRd Try.underlying82 sz56 rfl rfl (by first | omega | with_reducible assumption | (simp only [u32s_length, i64s_length, List.length_append]; omega) | (simp only [List.length_set, u32s_length, *] <;> first | done | omega) | rfl) (Reads.row 1 rfl) (by first | omega | with_reducible assumption | (simp only [u32s_length, i64s_length, List.length_append]; omega) | (simp only [List.length_set, u32s_length, *] <;> first | done | omega) | rfl)) ?_
      refine qv_v (q_loadRd Try.underlying56 rfl rfl (Reads.row 1 rfl) (u32s_at (by first | omega | with_reducible assumption | (simp only [u32s_length, i64s_length, List.length_append]; omega) | (simp only [List.length_set, u32s_length, *] <;> first | done | omega) | rfl))) ?_
      refine qv_v (q_move rfl) ?_
      refine qv_v (q_move rfl) ?_
      refine qv_v (q_idxRd (m := 5) Try.underlying103 sz3 rfl rfl (by first | omega | with_reducible assumption | (simp only [u32s_length, i64s_length, List.length_append]; omega) | (simp only [List.length_set, u32s_length, *] <;> first | done | omega) | rfl) (rowsRd bf r (by omega) _ _ _) (by first | omega | with_reducible assumption | (simp only [u32s_length, i64s_length, List.length_append]; omega) | (simp only [List.length_set, u32s_length, *] <;> first | done | omega) | rfl)) ?_
      refine qv_v (q_loadRd rfl rfl rfl (rowsRd bf r (by omega) _ _ _) (rints_at (j := 5) hr9 (by decide))) ?_
      refine qv_v (q_idxRd Try.underlying82 sz56 rfl rfl (by first | omega | with_reducible assumption | (simp only [u32s_length, i64s_length, List.length_append]; omega) | (simp only [List.length_set, u32s_length, *] <;> first | done | omega) | rfl) (Reads.row 1 rfl) (by first | omega | with_reducible assumption | (simp only [u32s_length, i64s_length, List.length_append]; omega) | (simp only [List.length_set, u32s_length, *] <;> first | done | omega) | rfl)) ?_
      refine qv_v (q_loadRd Try.underlying56 rfl rfl (Reads.row 1 rfl) (u32s_at (by first | omega | with_reducible assumption | (simp only [u32s_length, i64s_length, List.length_append]; omega) | (simp only [List.length_set, u32s_length, *] <;> first | done | omega) | rfl))) ?_
      refine qv_end ?_
      refine VL.keep (Sub.cons (s := 0) rfl (Sub.cons (s := 9) rfl (Sub.cons (s := 10) rfl (Sub.cons (s := 12) rfl (Sub.cons (s := 13) rfl (Sub.cons (s := 67) rfl (Sub.cons (s := 14) rfl (Sub.cons (s := 102) rfl (Sub.cons (s := 108) rfl (Sub.cons (s := 114) rfl (Sub.nil _))))))))))) ?_
      refine l_callE Try.func72 rfl rfl rfl (fun w1 H1 => rmix_calls _ 2 6 10 14 _ _ _ bW (by first | with_reducible exact hrl | (simp only [mixL_length]; exact hrl)) (by decide) (by decide) (by decide) (by decide) w1 H1) rfl ?_
      refine vl_nil ?_
      refine (qn_n (th_n ?_))
      refine VC_seq ?_
      refine VC_drawV 13 [[], [], [], [2], [3], [1, 4], [5], [], [], [8], [9], [7, 10], [11], [0, 6, 12]] [[], [], [], [2], [2, 3], [1, 2, 3, 4], [1, 2, 3, 4, 5], [], [], [8], [8, 9], [7, 8, 9, 10], [7, 8, 9, 10, 11], [0, 1, 2, 3, 4, 5, 6, 7, 8, 9, 10, 11, 12]] rfl (by kernel_rfl) ?_
      refine qv_v (q_move rfl) ?_
      refine qv_v (q_move rfl) ?_
      refine qv_v (q_move rfl) ?_
      refine qv_v (q_idxRd (m := 6) Try.underlying103 sz3 rfl rfl (by first | omega | with_reducible assumption | (simp only [u32s_length, i64s_length, List.length_append]; omega) | (simp only [List.length_set, u32s_length, *] <;> first | done | omega) | rfl) (rowsRd bf r (by omega) _ _ _) (by first | omega | with_reducible assumption | (simp only [u32s_length, i64s_length, List.length_append]; omega) | (simp only [List.length_set, u32s_length, *] <;> first | done | omega) | rfl)) ?_
      refine qv_v (q_loadRd rfl rfl rfl (rowsRd bf r (by omega) _ _ _) (rints_at (j := 6) hr9 (by decide))) ?_
      refine qv_v (q_idxRd Try.underlying82 sz56 rfl rfl (by first | omega | with_reducible assumption | (simp only [u32s_length, i64s_length, List.length_append]; omega) | (simp only [List.length_set, u32s_length, *] <;> first | done | omega) | rfl) (Reads.row 1 rfl) (by first | omega | with_reducible assumption | (simp only [u32s_length, i64s_length, List.length_append]; omega) | (simp only [List.length_set, u32s_length, *] <;> first | done | omega) | rfl)) ?_
      refine qv_v (q_loadRd Try.underlying56 rfl rfl (Reads.row 1 rfl) (u32s_at (by first | omega | with_reducible assumption | (simp only [u32s_length, i64s_length, List.length_append]; omega) | (simp only [List.length_set, u32s_length, *] <;> first | done | omega) | rfl))) ?_
      refine qv_v (q_move rfl) ?_
      refine qv_v (q_move rfl) ?_
      refine qv_v (q_idxRd (m := 7) Try.underlying103 sz3 rfl rfl (by first | omega | with_reducible assumption | (simp only [u32s_length, i64s_length, List.length_append]; omega) | (simp only [List.length_set, u32s_length, *] <;> first | done | omega) | rfl) (rowsRd bf r (by omega) _ _ _) (by first | omega | with_reducible assumption | (simp only [u32s_length, i64s_length, List.length_append]; omega) | (simp only [List.length_set, u32s_length, *] <;> first | done | omega) | rfl)) ?_
      refine qv_v (q_loadRd rfl rfl rfl (rowsRd bf r (by omega) _ _ _) (rints_at (j := 7) hr9 (by decide))) ?_
      refine qv_v (q_idxRd Try.underlying82 sz56 rfl rfl (by first | omega | with_reducible assumption | (simp only [u32s_length, i64s_length, List.length_append]; omega) | (simp only [List.length_set, u32s_length, *] <;> first | done | omega) | rfl) (Reads.row 1 rfl) (by first | omega | with_reducible assumption | (simp only [u32s_length, i64s_length, List.length_append]; omega) | (simp only [List.length_set, u32s_length, *] <;> first | done | omega) | rfl)) ?_
      refine qv_v (q_loadRd Try.underlying56 rfl rfl (Reads.row 1 rfl) (u32s_at (by first | omega | with_reducible assumption | (simp only [u32s_length, i64s_length, List.length_append]; omega) | (simp only [List.length_set, u32s_length, *] <;> first | done | omega) | rfl))) ?_
      refine qv_end ?_
      refine VL.keep (Sub.cons (s := 0) rfl (Sub.cons (s := 9) rfl (Sub.cons (s := 10) rfl (Sub.cons (s := 12) rfl (Sub.cons (s := 13) rfl (Sub.cons (s := 67) rfl (Sub.cons (s := 14) rfl (Sub.cons (s := 116) rfl (Sub.cons (s := 122) rfl (Sub.cons (s := 128) rfl (Sub.nil _))))))))))) ?_
      refine l_callE Try.func72 rfl rfl rfl (fun w1 H1 => rmix_calls _ 3 7 11 15 _ _ _ bW (by first | with_reducible exact hrl | (simp only [mixL_length]; exact hrl)) (by decide) (by decide) (by decide) (by decide) w1 H1) rfl ?_
      refine vl_nil ?_
      refine (qn_n (th_n ?_))
      refine VC_seq ?_
      refine VC_drawV 13 [[], [], [], [2], [3], [1, 4], [5], [], [], [8], [9], [7, 10], [11], [0, 6, 12]] [[], [], [], [2], [2, 3], [1, 2, 3, 4], [1, 2, 3, 4, 5], [], [], [8], [8, 9], [7, 8, 9, 10], [7, 8, 9, 10, 11], [0, 1, 2, 3, 4, 5, 6, 7, 8, 9, 10, 11, 12]] rfl (by kernel_rfl) ?_
      refine qv_v (q_move rfl) ?_
      refine qv_v (q_move rfl) ?_
      refine qv_v (q_move rfl) ?_
      refine qv_v (q_idxRd (m := 8) Try.underlying103 sz3 rfl rfl (by first | omega | with_reducible assumption | (simp only [u32s_length, i64s_length, List.length_append]; omega) | (simp only [List.length_set, u32s_length, *] <;> first | done | omega) | rfl) (rowsRd bf r (by omega) _ _ _) (by first | omega | with_reducible assumption | (simp only [u32s_length, i64s_length, List.length_append]; omega) | (simp only [List.length_set, u32s_length, *] <;> first | done | omega) | rfl)) ?_
      refine qv_v (q_loadRd rfl rfl rfl (rowsRd bf r (by omega) _ _ _) (rints_at (j := 8) hr9 (by decide))) ?_
      refine qv_v (q_idxRd Try.underlying82 sz56 rfl rfl (by first | omega | with_reducible assumption | (simp only [u32s_length, i64s_length, List.length_append]; omega) | (simp only [List.length_set, u32s_length, *] <;> first | done | omega) | rfl) (Reads.row 1 rfl) (by first | omega | with_reducible assumption | (simp only [u32s_length, i64s_length, List.length_append]; omega) | (simp only [List.length_set, u32s_length, *] <;> first | done | omega) | rfl)) ?_
      refine qv_v (q_loadRd Try.underlying56 rfl rfl (Reads.row 1 rfl) (u32s_at (by first | omega | with_reducible assumption | (simp only [u32s_length, i64s_length, List.length_append]; omega) | (simp only [List.length_set, u32s_length, *] <;> first | done | omega) | rfl))) ?_
      refine qv_v (q_move rfl) ?_
      refine qv_v (q_move rfl) ?_
      refine qv_v (q_idxRd (m := 9) Try.underlying103 sz3 rfl rfl (by first | omega | with_reducible assumption | (simp only [u32s_length, i64s_length, List.length_append]; omega) | (simp only [List.length_set, u32s_length, *] <;> first | done | omega) | rfl) (rowsRd bf r (by omega) _ _ _) (by first | omega | with_reducible assumption | (simp only [u32s_length, i64s_length, List.length_append]; omega) | (simp only [List.length_set, u32s_length, *] <;> first | done | omega) | rfl)) ?_
      refine qv_v (q_loadRd rfl rfl rfl (rowsRd bf r (by omega) _ _ _) (rints_at (j := 9) hr9 (by decide))) ?_
      refine qv_v (q_idxRd Try.underlying82 sz56 rfl rfl (by first | omega | with_reducible assumption | (simp only [u32s_length, i64s_length, List.length_append]; omega) | (simp only [List.length_set, u32s_length, *] <;> first | done | omega) | rfl) (Reads.row 1 rfl) (by first | omega | with_reducible assumption | (simp only [u32s_length, i64s_length, List.length_append]; omega) | (simp only [List.length_set, u32s_length, *] <;> first | done | omega) | rfl)) ?_
      refine qv_v (q_loadRd Try.underlying56 rfl rfl (Reads.row 1 rfl) (u32s_at (by first | omega | with_reducible assumption | (simp only [u32s_length, i64s_length, List.length_append]; omega) | (simp only [List.length_set, u32s_length, *] <;> first | done | omega) | rfl))) ?_
      refine qv_end ?_
      refine VL.keep (Sub.cons (s := 0) rfl (Sub.cons (s := 9) rfl (Sub.cons (s := 10) rfl (Sub.cons (s := 12) rfl (Sub.cons (s := 13) rfl (Sub.cons (s := 67) rfl (Sub.cons (s := 14) rfl (Sub.cons (s := 130) rfl (Sub.cons (s := 136) rfl (Sub.cons (s := 142) rfl (Sub.nil _))))))))))) ?_
      refine l_callE Try.func72 rfl rfl rfl (fun w1 H1 => rmix_calls _ 0 5 10 15 _ _ _ bW (by first | with_reducible exact hrl | (simp only [mixL_length]; exact hrl)) (by decide) (by decide) (by decide) (by decide) w1 H1) rfl ?_
      refine vl_nil ?_
      refine (qn_n (th_n ?_))
      refine VC_seq ?_
      refine VC_drawV 13 [[], [], [], [2], [3], [1, 4], [5], [], [], [8], [9], [7, 10], [11], [0, 6, 12]] [[], [], [], [2], [2, 3], [1, 2, 3, 4], [1, 2, 3, 4, 5], [], [], [8], [8, 9], [7, 8, 9, 10], [7, 8, 9, 10, 11], [0, 1, 2, 3, 4, 5, 6, 7, 8, 9, 10, 11, 12]] rfl (by kernel_rfl) ?_
      refine qv_v (q_move rfl) ?_
      refine qv_v (q_move rfl) ?_
      refine qv_v (q_move rfl) ?_
      refine qv_v (q_idxRd (m := 10) Try.underlying103 sz3 rfl rfl (by first | omega | with_reducible assumption | (simp only [u32s_length, i64s_length, List.length_append]; omega) | (simp only [List.length_set, u32s_length, *] <;> first | done | omega) | rfl) (rowsRd bf r (by omega) _ _ _) (by first | omega | with_reducible assumption | (simp only [u32s_length, i64s_length, List.length_append]; omega) | (simp only [List.length_set, u32s_length, *] <;> first | done | omega) | rfl)) ?_
      refine qv_v (q_loadRd rfl rfl rfl (rowsRd bf r (by omega) _ _ _) (rints_at (j := 10) hr9 (by decide))) ?_
      refine qv_v (q_idxRd Try.underlying82 sz56 rfl rfl (by first | omega | with_reducible assumption | (simp only [u32s_length, i64s_length, List.length_append]; omega) | (simp only [List.length_set, u32s_length, *] <;> first | done | omega) | rfl) (Reads.row 1 rfl) (by first | omega | with_reducible assumption | (simp only [u32s_length, i64s_length, List.length_append]; omega) | (simp only [List.length_set, u32s_length, *] <;> first | done | omega) | rfl)) ?_
      refine qv_v (q_loadRd Try.underlying56 rfl rfl (Reads.row 1 rfl) (u32s_at (by first | omega | with_reducible assumption | (simp only [u32s_length, i64s_length, List.length_append]; omega) | (simp only [List.length_set, u32s_length, *] <;> first | done | omega) | rfl))) ?_
      refine qv_v (q_move rfl) ?_
      refine qv_v (q_move rfl) ?_
      refine qv_v (q_idxRd (m := 11) Try.underlying103 sz3 rfl rfl (by first | omega | with_reducible assumption | (simp only [u32s_length, i64s_length, List.length_append]; omega) | (simp only [List.length_set, u32s_length, *] <;> first | done | omega) | rfl) (rowsRd bf r (by omega) _ _ _) (by first | omega | with_reducible assumption | (simp only [u32s_length, i64s_length, List.length_append]; omega) | (simp only [List.length_set, u32s_length, *] <;> first | done | omega) | rfl)) ?_
      refine qv_v (q_loadRd rfl rfl rfl (rowsRd bf r (by omega) _ _ _) (rints_at (j := 11) hr9 (by decide))) ?_
      refine qv_v (q_idxRd Try.underlying82 sz56 rfl rfl (by first | omega | with_reducible assumption | (simp only [u32s_length, i64s_length, List.length_append]; omega) | (simp only [List.length_set, u32s_length, *] <;> first | done | omega) | rfl) (Reads.row 1 rfl) (by first | omega | with_reducible assumption | (simp only [u32s_length, i64s_length, List.length_append]; omega) | (simp only [List.length_set, u32s_length, *] <;> first | done | omega) | rfl)) ?_
      refine qv_v (q_loadRd Try.underlying56 rfl rfl (Reads.row 1 rfl) (u32s_at (by first | omega | with_reducible assumption | (simp only [u32s_length, i64s_length, List.length_append]; omega) | (simp only [List.length_set, u32s_length, *] <;> first | done | omega) | rfl))) ?_
      refine qv_end ?_
      refine VL.keep (Sub.cons (s := 0) rfl (Sub.cons (s := 9) rfl (Sub.cons (s := 10) rfl (Sub.cons (s := 12) rfl (Sub.cons (s := 13) rfl (Sub.cons (s := 67) rfl (Sub.cons (s := 14) rfl (Sub.cons (s := 144) rfl (Sub.cons (s := 150) rfl (Sub.cons (s := 156) rfl (Sub.nil _))))))))))) ?_
      refine l_callE Try.func72 rfl rfl rfl (fun w1 H1 => rmix_calls _ 1 6 11 12 _ _ _ bW (by first | with_reducible exact hrl | (simp only [mixL_length]; exact hrl)) (by decide) (by decide) (by decide) (by decide) w1 H1) rfl ?_
      refine vl_nil ?_
      refine (qn_n (th_n ?_))
      refine VC_seq ?_
      refine VC_drawV 13 [[], [], [], [2], [3], [1, 4], [5], [], [], [8], [9], [7, 10], [11], [0, 6, 12]] [[], [], [], [2], [2, 3], [1, 2, 3, 4], [1, 2, 3, 4, 5], [], [], [8], [8, 9], [7, 8, 9, 10], [7, 8, 9, 10, 11], [0, 1, 2, 3, 4, 5, 6, 7, 8, 9, 10, 11, 12]] rfl (by kernel_rfl) ?_
      refine qv_v (q_move rfl) ?_
      refine qv_v (q_move rfl) ?_
      refine qv_v (q_move rfl) ?_
      refine qv_v (q_idxRd (m := 12) Try.underlying103 sz3 rfl rfl (by first | omega | with_reducible assumption | (simp only [u32s_length, i64s_length, List.length_append]; omega) | (simp only [List.length_set, u32s_length, *] <;> first | done | omega) | rfl) (rowsRd bf r (by omega) _ _ _) (by first | omega | with_reducible assumption | (simp only [u32s_length, i64s_length, List.length_append]; omega) | (simp only [List.length_set, u32s_length, *] <;> first | done | omega) | rfl)) ?_
      refine qv_v (q_loadRd rfl rfl rfl (rowsRd bf r (by omega) _ _ _) (rints_at (j := 12) hr9 (by decide))) ?_
      refine qv_v (q_idxRd Try.underlying82 sz56 rfl rfl (by first | omega | with_reducible assumption | (simp only [u32s_length, i64s_length, List.length_append]; omega) | (simp only [List.length_set, u32s_length, *] <;> first | done | omega) | rfl) (Reads.row 1 rfl) (by first | omega | with_reducible assumption | (simp only [u32s_length, i64s_length, List.length_append]; omega) | (simp only [List.length_set, u32s_length, *] <;> first | done | omega) | rfl)) ?_
      refine qv_v (q_loadRd Try.underlying56 rfl rfl (Reads.row 1 rfl) (u32s_at (by first | omega | with_reducible assumption | (simp only [u32s_length, i64s_length, List.length_append]; omega) | (simp only [List.length_set, u32s_length, *] <;> first | done | omega) | rfl))) ?_
      refine qv_v (q_move rfl) ?_
      refine qv_v (q_move rfl) ?_
      refine qv_v (q_idxRd (m := 13) Try.underlying103 sz3 rfl rfl (by first | omega | with_reducible assumption | (simp only [u32s_length, i64s_length, List.length_append]; omega) | (simp only [List.length_set, u32s_length, *] <;> first | done | omega) | rfl) (rowsRd bf r (by omega) _ _ _) (by first | omega | with_reducible assumption | (simp only [u32s_length, i64s_length, List.length_append]; omega) | (simp only [List.length_set, u32s_length, *] <;> first | done | omega) | rfl)) ?_
      refine qv_v (q_loadRd rfl rfl rfl (rowsRd bf r (by omega) _ _ _) (rints_at (j := 13) hr9 (by decide))) ?_
      refine qv_v (q_idxRd Try.underlying82 sz56 rfl rfl (by first | omega | with_reducible assumption | (simp only [u32s_length, i64s_length, List.length_append]; omega) | (simp only [List.length_set, u32s_length, *] <;> first | done | omega) | rfl) (Reads.row 1 rfl) (by first | omega | with_reducible assumption | (simp only [u32s_length, i64s_length, List.length_append]; omega) | (simp only [List.length_set, u32s_length, *] <;> first | done | omega) | rfl)) ?_
      refine qv_v (q_loadRd Try.underlying56 rfl rfl (Reads.row 1 rfl) (u32s_at (by first | omega | with_reducible assumption | (simp only [u32s_length, i64s_length, List.length_append]; omega) | (simp only [List.length_set, u32s_length, *] <;> first | done | omega) | rfl))) ?_
      refine qv_end ?_
      refine VL.keep (Sub.cons (s := 0) rfl (Sub.cons (s := 9) rfl (Sub.cons (s := 10) rfl (Sub.cons (s := 12) rfl (Sub.cons (s := 13) rfl (Sub.cons (s := 67) rfl (Sub.cons (s := 14) rfl (Sub.cons (s := 158) rfl (Sub.cons (s := 164) rfl (Sub.cons (s := 170) rfl (Sub.nil _))))))))))) ?_
      refine l_callE Try.func72 rfl rfl rfl (fun w1 H1 => rmix_calls _ 2 7 8 13 _ _ _ bW (by first | with_reducible exact hrl | (simp only [mixL_length]; exact hrl)) (by decide) (by decide) (by decide) (by decide) w1 H1) rfl ?_
      refine vl_nil ?_
      refine (qn_n (th_n ?_))
      refine VC_drawV 13 [[], [], [], [2], [3], [1, 4], [5], [], [], [8], [9], [7, 10], [11], [0, 6, 12]] [[], [], [], [2], [2, 3], [1, 2, 3, 4], [1, 2, 3, 4, 5], [], [], [8], [8, 9], [7, 8, 9, 10], [7, 8, 9, 10, 11], [0, 1, 2, 3, 4, 5, 6, 7, 8, 9, 10, 11, 12]] rfl (by kernel_rfl) ?_
      refine qv_v (q_move rfl) ?_
      refine qv_v (q_move rfl) ?_
      refine qv_v (q_move rfl) ?_
      refine qv_v (q_idxRd (m := 14) Try.underlying103 sz3 rfl rfl (by first | omega | with_reducible assumption | (simp only [u32s_length, i64s_length, List.length_append]; omega) | (simp only [List.length_set, u32s_length, *] <;> first | done | omega) | rfl) (rowsRd bf r (by omega) _ _ _) (by first | omega | with_reducible assumption | (simp only [u32s_length, i64s_length, List.length_append]; omega) | (simp only [List.length_set, u32s_length, *] <;> first | done | omega) | rfl)) ?_
      refine qv_v (q_loadRd rfl rfl rfl (rowsRd bf r (by omega) _ _ _) (rints_at (j := 14) hr9 (by decide))) ?_
      refine qv_v (q_idxRd Try.underlying82 sz56 rfl rfl (by first | omega | with_reducible assumption | (simp only [u32s_length, i64s_length, List.length_append]; omega) | (simp only [List.length_set, u32s_length, *] <;> first | done | omega) | rfl) (Reads.row 1 rfl) (by first | omega | with_reducible assumption | (simp only [u32s_length, i64s_length, List.length_append]; omega) | (simp only [List.length_set, u32s_length, *] <;> first | done | omega) | rfl)) ?_
      refine qv_v (q_loadRd Try.underlying56 rfl rfl (Reads.row 1 rfl) (u32s_at (by first | omega | with_reducible assumption | (simp only [u32s_length, i64s_length, List.length_append]; omega) | (simp only [List.length_set, u32s_length, *] <;> first | done | omega) | rfl))) ?_
      refine qv_v (q_move rfl) ?_
      refine qv_v (q_move rfl) ?_
      refine qv_v (q_idxRd (m := 15) Try.underlying103 sz3 rfl rfl (by first | omega | with_reducible assumption | (simp only [u32s_length, i64s_length, List.length_append]; omega) | (simp only [List.length_set, u32s_length, *] <;> first | done | omega) | rfl) (rowsRd bf r (by omega) _ _ _) (by first | omega | with_reducible assumption | (simp only [u32s_length, i64s_length, List.length_append]; omega) | (simp only [List.length_set, u32s_length, *] <;> first | done | omega) | rfl)) ?_
      refine qv_v (q_loadRd rfl rfl rfl (rowsRd bf r (by omega) _ _ _) (rints_at (j := 15) hr9 (by decide))) ?_
      refine qv_v (q_idxRd Try.underlying82 sz56 rfl rfl (by first | omega | with_reducible assumption | (simp only [u32s_length, i64s_length, List.length_append]; omega) | (simp only [List.length_set, u32s_length, *] <;> first | done | omega) | rfl) (Reads.row 1 rfl) (by first | omega | with_reducible assumption | (simp only [u32s_length, i64s_length, List.length_append]; omega) | (simp only [List.length_set, u32s_length, *] <;> first | done | omega) | rfl)) ?_
      refine qv_v (q_loadRd Try.underlying56 rfl rfl (Reads.row 1 rfl) (u32s_at (by first | omega | with_reducible assumption | (simp only [u32s_length, i64s_length, List.length_append]; omega) | (simp only [List.length_set, u32s_length, *] <;> first | done | omega) | rfl))) ?_
      refine qv_end ?_
      refine VL.keep (Sub.cons (s := 0) rfl (Sub.cons (s := 9) rfl (Sub.cons (s := 10) rfl (Sub.cons (s := 12) rfl (Sub.cons (s := 13) rfl (Sub.cons (s := 67) rfl (Sub.cons (s := 14) rfl (Sub.cons (s := 172) rfl (Sub.cons (s := 178) rfl (Sub.cons (s := 184) rfl (Sub.nil _))))))))))) ?_
      refine l_callE Try.func72 rfl rfl rfl (fun w1 H1 => rmix_calls _ 3 4 9 14 _ _ _ bW (by first | with_reducible exact hrl | (simp only [mixL_length]; exact hrl)) (by decide) (by decide) (by decide) (by decide) w1 H1) rfl ?_
      refine vl_nil ?_
      refine (qn_n (bl_n (th_n ?_)))
      refine VC_region ?_
      refine vl_v (q_move rfl) rfl ?_
      first | (refine vl_v (q_add_n (q := 1) rfl rfl (by omega)) rfl ?_) | (refine vl_v (q_add_i rfl rfl (by omega) (by omega)) rfl ?_)
      refine vl_v (q_assign rfl) rfl ?_
      refine vl_nil ?_
      refine (th_n ?_)
      refine ⟨r + 1, by omega, by omega, (Sub.cons (s := 0) rfl (Sub.cons (s := 9) rfl (Sub.cons (s := 10) rfl (Sub.cons (s := 12) rfl (Sub.cons (s := 13) rfl (Sub.nil _)))))), fun w H => H⟩
    · skip
      have ht67 := of_decide_eq_false ht67
      obtain rfl : r = 10 := by omega
      refine VC_exit ?_
      refine (th_x (th_x (bl_xs (th_n ?_))))
      refine VC_seq ?_
      refine VC_region ?_
      refine vl_v (q_assign rfl) rfl ?_
      refine vl_nil ?_
      refine (th_n ?_)
      refine VC_seq ?_
      refine VC_seq ?_
      refine VC_nilRow 56 1 ?_
      refine VC_region ?_
      refine vl_v (q_assign rfl) rfl ?_
      refine vl_nil ?_
      refine (th_n ?_)
      refine VC_block ?_
      refine VC_loop (ι := Nat × Option Addr × Nat) (fun q => q.1 ≤ 8) (fun q => [(0, .slice Ah 8 ch), (9, .slice (some ⟨bW, 0, none⟩) 16 c21), (15, .slice q.2.1 q.1 q.2.2), (16, vN q.1)]) (fun q => [.row 56 1 (.slice q.2.1 q.1 q.2.2) q.1 (u32s (rxor h (rndsM v0 m16 10) q.1)), .blk bW 56 (u32s (rndsM v0 m16 10) ++ more)]) (fun q => 8 - q.1) (0, none, 0) (by omega) (Sub.cons (s := 0) rfl (Sub.cons (s := 9) rfl (Sub.cons (s := 15) rfl (Sub.cons (s := 16) rfl (Sub.nil _))))) (fun w' H => H.pick (ks := [0, 1]) (by decide) rfl) ?_
      rintro ⟨z, X, e⟩ hp
      simp only at hp
      refine VC_seq ?_
      refine VC_seq ?_
      refine VC_region ?_
      refine vl_v (q_move rfl) rfl ?_
      first | (refine vl_v (q_lss_n (q := 8) Try.underlying3 rfl rfl) rfl ?_) | (refine vl_v (q_lss_k Try.underlying3 rfl rfl) rfl ?_)
      refine vl_nil ?_
      refine (th_n ?_)
      refine VC_cond rfl (fun ht187 => ?_) (fun ht187 => ?_)
      · skip
        have ht187 := of_decide_eq_true ht187
        simp only at ht187
        have hl := rxor_length h (rndsM v0 m16 10) z
        refine VC_skip ?_
        refine (th_n ?_)
        refine VC_seq ?_
        refine VC_block ?_
        refine VC_drawM 17 [[], [], [], [1, 2], [3], [], [], [5, 6], [7], [4, 8], [], [], [11], [10, 12], [13], [9, 14], [15], [0, 16], [17, 0, 1, 2, 3, 4, 5, 6, 7, 8, 9, 10, 11, 12, 13, 14, 15, 16]] [[], [], [], [1, 2], [1, 2, 3], [], [], [5, 6], [5, 6, 7], [1, 2, 3, 4, 5, 6, 7, 8], [], [], [11], [10, 11, 12], [10, 11, 12, 13], [1, 2, 3, 4, 5, 6, 7, 8, 9, 10, 11, 12, 13, 14], [1, 2, 3, 4, 5, 6, 7, 8, 9, 10, 11, 12, 13, 14, 15], [0, 1, 2, 3, 4, 5, 6, 7, 8, 9, 10, 11, 12, 13, 14, 15, 16], [0, 1, 2, 3, 4, 5, 6, 7, 8, 9, 10, 11, 12, 13, 14, 15, 16, 17]] rfl (by kernel_rfl) ?_
        refine qm_v (fun xs hx => q_move rfl) ?_
        refine qm_v (fun xs hx => q_move rfl) ?_
        refine qm_v (fun xs hx => q_move rfl) ?_
        refine qm_v (fun xs hx => q_idxRd Try.underlying82 sz56 rfl rfl (by first | omega | with_reducible assumption | (simp only [u32s_length, i64s_length, List.length_append]; omega) | (simp only [List.length_set, u32s_length, *] <;> first | done | omega) | rfl) (Reads.old hA) (by first | omega | with_reducible assumption | (simp only [u32s_length, i64s_length, List.length_append]; omega) | (simp only [List.length_set, u32s_length, *] <;> first | done | omega) | rfl)) ?_
        refine qm_v (fun xs hx => q_loadRd Try.underlying56 rfl rfl (Reads.old hA) (u32s_at (by first | omega | with_reducible assumption | (simp only [u32s_length, i64s_length, List.length_append]; omega) | (simp only [List.length_set, u32s_length, *] <;> first | done | omega) | rfl))) ?_
        refine qm_v (fun xs hx => q_move rfl) ?_
        refine qm_v (fun xs hx => q_move rfl) ?_
        refine qm_v (fun xs hx => q_idxS0 Try.underlying82 sz56 rfl rfl (by omega) (by rw [Nat.mul_one, Nat.zero_add])) ?_
        first | (refine qm_v (fun xs hx => q_load 1 Try.underlying56 rfl rfl rfl (u32s_atA (by first | omega | with_reducible assumption | (simp only [u32s_length, i64s_length, List.length_append]; omega) | (simp only [List.length_set, u32s_length, *] <;> first | done | omega) | rfl))) ?_) | (refine qm_v (fun xs hx => q_load 1 Try.underlying56 rfl rfl rfl rfl) ?_)
        refine qm_v (fun xs hx => q_xor_u32 rfl rfl) ?_
        refine qm_v (fun xs hx => q_move rfl) ?_
        refine qm_v (fun xs hx => q_move rfl) ?_
        first | (refine qm_v (fun xs hx => q_add_n (q := 8) rfl rfl (by omega)) ?_) | (refine qm_v (fun xs hx => q_add_i rfl rfl (by omega) (by omega)) ?_)
        refine qm_v (fun xs hx => q_idxS0 Try.underlying82 sz56 rfl rfl (by omega) (by rw [Nat.mul_one, Nat.zero_add])) ?_
        first | (refine qm_v (fun xs hx => q_load 1 Try.underlying56 rfl rfl rfl (u32s_atA (by first | omega | with_reducible assumption | (simp only [u32s_length, i64s_length, List.length_append]; omega) | (simp only [List.length_set, u32s_length, *] <;> first | done | omega) | rfl))) ?_) | (refine qm_v (fun xs hx => q_load 1 Try.underlying56 rfl rfl rfl rfl) ?_)
        refine qm_v (fun xs hx => q_xor_u32 rfl rfl) ?_
        refine qm_a (fun xs hx => q_litA (cs := u32s [_]) Try.underlying82 in56 (by decide) rfl rfl rfl rfl (by first | (with_reducible first | exact bys_one _ | exact u32s_one _ | exact u64s_one _ | exact i64s_one _ | exact n64s_one _ | assumption) | exact bys_one _ | exact u32s_one _ | exact u64s_one _ | exact i64s_one _ | exact one_all rfl | (refine app_one ?_ ?_ <;> first | exact bys_one _ | (simp; done))) rfl) ?_
        refine qm_end ?_
        intro xs hx
        obtain ⟨⟨b206, e206⟩, _⟩ := hx
        simp only [e206]
        simp only [resT, nRow, nBlk, nRowT, tupAt_0, List.append_assoc, List.nil_append, List.append_nil, List.cons_append, List.singleton_append, e206]
        refine VL.keep (Sub.cons (s := 0) rfl (Sub.cons (s := 9) rfl (Sub.cons (s := 15) rfl (Sub.cons (s := 16) rfl (Sub.cons (s := 187) rfl (Sub.cons (s := 190) rfl (Sub.cons (s := 206) rfl (Sub.nil _)))))))) ?_
        refine l_append 1 rfl rfl rfl Try.underlying82 Try.underlying82 in56 rfl (by decide) (Reads.row 0 rfl) (by first | omega | with_reducible assumption | (simp only [u32s_length, i64s_length, List.length_append]; omega) | (simp only [List.length_set, u32s_length, *] <;> first | done | omega) | rfl) (by first | (with_reducible first | exact bys_one _ | exact u32s_one _ | exact u64s_one _ | exact i64s_one _ | exact n64s_one _ | assumption) | exact bys_one _ | exact u32s_one _ | exact u64s_one _ | exact i64s_one _ | exact one_all rfl | (refine app_one ?_ ?_ <;> first | exact bys_one _ | (simp; done))) (by first | omega | with_reducible assumption | (simp only [u32s_length, i64s_length, List.length_append]; omega) | (simp only [List.length_set, u32s_length, *] <;> first | done | omega) | rfl) (by first | omega | with_reducible assumption | (simp only [u32s_length, i64s_length, List.length_append]; omega) | (simp only [List.length_set, u32s_length, *] <;> first | done | omega) | rfl) rfl ?_
        intro A207 c207 hc207
        simp only [List.set_cons_zero, List.set_cons_succ, ← bys_append, ← u32s_append, ← u64s_append, ← i64s_append, List.nil_append, Nat.zero_add]
        refine vl_v (q_assign rfl) rfl ?_
        refine vl_nil ?_
        refine (qn_n (bl_n (th_n ?_)))
        refine VC_region ?_
        refine vl_v (q_move rfl) rfl ?_
        first | (refine vl_v (q_add_n (q := 1) rfl rfl (by omega)) rfl ?_) | (refine vl_v (q_add_i rfl rfl (by omega) (by omega)) rfl ?_)
        refine vl_v (q_assign rfl) rfl ?_
        refine vl_nil ?_
        refine (th_n ?_)
        refine ⟨(z + 1, A207, c207), by simp only; omega, by simp only; omega, (Sub.cons (s := 0) rfl (Sub.cons (s := 9) rfl (Sub.cons (s := 15) rfl (Sub.cons (s := 16) rfl (Sub.nil _))))), fun w H => St.pick H (ks := [1, 2]) (by decide) rfl⟩
      · skip
        have ht187 := of_decide_eq_false ht187
        simp only at ht187
        obtain rfl : z = 8 := by omega
        refine VC_exit ?_
        refine (th_x (th_x (bl_xs (th_n ?_))))
        refine VC_seq ?_
        refine VC_region ?_
        refine vl_v (q_move rfl) rfl ?_
        refine vl_v (q_assign rfl) rfl ?_
        refine vl_nil ?_
        refine (th_n ?_)
        refine VC_ret ?_
        refine ⟨_, res1 rfl rfl, ?_⟩
        exact ⟨_, _, rfl, by rw [into, ← hve, ← rwW_words, ← hme, rxor_all h _ hh]⟩
end Go.Proofs.Ytkadnmoephkklaa
