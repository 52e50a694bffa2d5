/- What the functions of package blake do: a block goes into the words. No condition. -/
import Derived.Test.YtkadnmoephkklaaC03b
namespace Go.Proofs.Ytkadnmoephkklaa
open Go.RowKit Go.PBYtkadnmoephkklaa
set_option linter.unusedVariables false
set_option linter.unusedSimpArgs false
set_option maxRecDepth 10000


set_option maxHeartbeats 2000000 in
theorem into_false {S : List Nat} {w0 : World} {R : List Res} {T : TypeId} {c : List Value} (h : List UInt32) (blk : List UInt8) (t : UInt64) (bh bb o : Nat) (hh : h.length = 8) (hb : blk.length = 64) (hc : (c.drop o).take 64 = bys blk) (w : World) (H : St S w0 (.blk bh 58 (u32s h) :: .blk bb T c :: R) w) :
    Calls Try.prog 42 #[vP bh 0, vP bb o, vU64 t, .bool false] w fun e w' => e = .returned (.tuple #[]) ∧ St S w0 (.blk bh 58 (u32s (into h blk t false)) :: .blk bb T c :: R) w' := by
  have hm16 := wordsB_length blk 16
  have hv0 := vBeg_length h t false
  rw [hh] at hv0
  obtain ⟨v0, hve⟩ : ∃ v, v = vBeg h t false := ⟨_, rfl⟩
  rw [← hve] at hv0
  obtain ⟨m16, hme⟩ : ∃ v, v = wordsB blk 16 := ⟨_, rfl⟩
  rw [← hme] at hm16
  have hcl : o + 64 ≤ c.length := by
    have := congrArg List.length hc
    rw [List.length_take, List.length_drop, bys_length, hb] at this
    omega
  refine enter (n := 153) (R := fun e L => e = .returned (.tuple #[]) ∧ ∃ M, L = M ++ (.blk bh 58 (u32s (into h blk t false)) :: .blk bb T c :: R)) [vP bh 0, vP bb o, vU64 t, .bool false] Try.func42 rfl rfl rfl H ?_ (fun e w' L' h H => by obtain ⟨h1, M, rfl⟩ := h; exact ⟨h1, H.sub (List.sublist_append_right _ _)⟩)
  refine VC_seq ?_
  refine VC_region ?_
  refine l_allocA zr81 rfl ?_
  intro b8
  refine l_allocA zr81 rfl ?_
  intro b9
  refine vl_nil ?_
  refine (th_n ?_)
  refine VC_seq ?_
  refine VC_region ?_
  refine vl_v (q_callV Try.func41 rfl rfl rfl (fun w1 H1 => first_calls w1)) rfl ?_
  refine l_allocA zr58 rfl ?_
  intro b10
  refine l_storeA 0 rfl rfl rfl sz58 (by first | omega | with_reducible assumption | (simp only [u32s_length, bys_length, i64s_length, List.length_append]; omega) | (simp only [List.length_set, List.length_append, List.length_replicate, u32s_length, bys_length, *] <;> first | done | omega) | rfl) (by first | (with_reducible first | exact bys_one _ | exact u32s_one _ | exact u64s_one _ | exact i64s_one _ | exact n64s_one _ | assumption) | exact bys_one _ | exact u32s_one _ | exact u64s_one _ | exact i64s_one _ | exact one_all rfl | (refine app_one ?_ ?_ <;> first | exact bys_one _ | (simp; done))) (by first | omega | with_reducible assumption | (simp only [u32s_length, bys_length, i64s_length, List.length_append]; omega) | (simp only [List.length_set, List.length_append, List.length_replicate, u32s_length, bys_length, *] <;> first | done | omega) | rfl) ?_
  simp only [List.set_cons_zero, List.set_cons_succ]
  refine vl_nil ?_
  refine (th_n ?_)
  refine VC_seq ?_
  refine VC_drawV 4 [[], [], [1], [2], [0, 3]] [[], [], [1], [1, 2], [0, 1, 2, 3]] rfl (by kernel_rfl) ?_
  refine qv_v (q_slcA (h := 8) Try.underlying81 sz56 rfl rfl ⟨_, rfl⟩ rfl (.inl rfl) (by omega) (by omega) (by omega) (by omega) (by (try simp only [Nat.mul_one, Nat.zero_add, Nat.zero_mul, Nat.mul_zero, Nat.add_zero]) <;> rfl)) ?_
  refine qv_v (q_move rfl) ?_
  refine qv_v (q_nilck rfl) ?_
  refine qv_v (q_slcA Try.underlying58 sz56 rfl rfl rfl rfl (.inl rfl) (by omega) (by omega) (by omega) (by omega) (by (try simp only [Nat.mul_one, Nat.zero_add, Nat.zero_mul, Nat.mul_zero, Nat.add_zero]) <;> rfl)) ?_
  refine qv_end ?_
  refine VL.keep (Sub.cons (s := 0) rfl (Sub.cons (s := 1) rfl (Sub.cons (s := 2) rfl (Sub.cons (s := 3) rfl (Sub.cons (s := 8) rfl (Sub.cons (s := 9) rfl (Sub.cons (s := 10) rfl (Sub.cons (s := 18) rfl (Sub.cons (s := 21) rfl (Sub.nil _)))))))))) ?_
  refine l_copy 2 rfl rfl rfl Try.underlying82 Try.underlying82 sz56 (Reads.blk 3 rfl) (by first | omega | with_reducible assumption | (simp only [u32s_length, bys_length, i64s_length, List.length_append]; omega) | (simp only [List.length_set, List.length_append, List.length_replicate, u32s_length, bys_length, *] <;> first | done | omega) | rfl) (by first | (with_reducible first | exact bys_one _ | exact u32s_one _ | exact u64s_one _ | exact i64s_one _ | exact n64s_one _ | assumption) | exact bys_one _ | exact u32s_one _ | exact u64s_one _ | exact i64s_one _ | exact one_all rfl | (refine app_one ?_ ?_ <;> first | exact bys_one _ | (simp; done))) (by first | omega | with_reducible assumption | (simp only [u32s_length, bys_length, i64s_length, List.length_append]; omega) | (simp only [List.length_set, List.length_append, List.length_replicate, u32s_length, bys_length, *] <;> first | done | omega) | rfl) rfl ?_
  simp only [List.set_cons_zero, List.set_cons_succ]
  rw [cp1 h hh]
  refine vl_nil ?_
  refine (qn_n (th_n ?_))
  refine VC_seq ?_
  refine VC_drawV 2 [[], [], [0, 1]] [[], [], [0, 1]] rfl (by kernel_rfl) ?_
  refine qv_v (q_slcA (l := 8) Try.underlying81 sz56 rfl ⟨_, rfl⟩ rfl rfl (.inl rfl) (by omega) (by omega) (by omega) (by omega) (by (try simp only [Nat.mul_one, Nat.zero_add, Nat.zero_mul, Nat.mul_zero, Nat.add_zero]) <;> rfl)) ?_
  refine qv_v (q_slcA Try.underlying58 sz56 rfl rfl rfl rfl (.inl rfl) (by omega) (by omega) (by omega) (by omega) (by (try simp only [Nat.mul_one, Nat.zero_add, Nat.zero_mul, Nat.mul_zero, Nat.add_zero]) <;> rfl)) ?_
  refine qv_end ?_
  refine VL.keep (Sub.cons (s := 0) rfl (Sub.cons (s := 1) rfl (Sub.cons (s := 2) rfl (Sub.cons (s := 3) rfl (Sub.cons (s := 8) rfl (Sub.cons (s := 9) rfl (Sub.cons (s := 10) rfl (Sub.cons (s := 23) rfl (Sub.cons (s := 24) rfl (Sub.nil _)))))))))) ?_
  refine l_copy 2 rfl rfl rfl Try.underlying82 Try.underlying82 sz56 (Reads.blk 0 rfl) (by first | omega | with_reducible assumption | (simp only [u32s_length, bys_length, i64s_length, List.length_append]; omega) | (simp only [List.length_set, List.length_append, List.length_replicate, u32s_length, bys_length, *] <;> first | done | omega) | rfl) (by first | (with_reducible first | exact bys_one _ | exact u32s_one _ | exact u64s_one _ | exact i64s_one _ | exact n64s_one _ | assumption) | exact bys_one _ | exact u32s_one _ | exact u64s_one _ | exact i64s_one _ | exact one_all rfl | (refine app_one ?_ ?_ <;> first | exact bys_one _ | (simp; done))) (by first | omega | with_reducible assumption | (simp only [u32s_length, bys_length, i64s_length, List.length_append]; omega) | (simp only [List.length_set, List.length_append, List.length_replicate, u32s_length, bys_length, *] <;> first | done | omega) | rfl) rfl ?_
  simp only [List.set_cons_zero, List.set_cons_succ]
  rw [cp2 h hh]
  refine vl_nil ?_
  refine (qn_n (th_n ?_))
  refine VC_seq ?_
  refine VC_region ?_
  have hhiv : (h ++ iv).length = 16 := by rw [List.length_append, hh]; rfl
  first | (refine vl_v (q_idxA (m := 12) Try.underlying81 sz56 rfl rfl (by omega) (r := _) (by rw [Nat.mul_one, Nat.zero_add])) rfl ?_) | (refine vl_v (q_idxA (m := 12) Try.underlying81 sz56 rfl rfl (by omega) rfl) rfl ?_)
  first | (refine vl_v (q_load 2 Try.underlying56 rfl rfl rfl (u32s_at (by first | omega | with_reducible assumption | (simp only [u32s_length, bys_length, i64s_length, List.length_append]; omega) | (simp only [List.length_set, List.length_append, List.length_replicate, u32s_length, bys_length, *] <;> first | done | omega) | rfl))) rfl ?_) | (refine vl_v (q_load 2 Try.underlying56 rfl rfl rfl rfl) rfl ?_)
  refine vl_v (q_move rfl) rfl ?_
  refine vl_v (q_conv_k (r := ((UInt32.ofNat t.toNat).toNat : Int)) Try.underlying61 Try.underlying56 rfl (by rw [IntKind.wrap_u32, UInt32.toNat_ofNat']; omega)) rfl ?_
  refine vl_v (q_xor_u32 rfl rfl) rfl ?_
  first | (refine vl_v (q_idxA (m := 12) Try.underlying81 sz56 rfl rfl (by omega) (r := _) (by rw [Nat.mul_one, Nat.zero_add])) rfl ?_) | (refine vl_v (q_idxA (m := 12) Try.underlying81 sz56 rfl rfl (by omega) rfl) rfl ?_)
  first | (refine l_stU32 2 rfl rfl rfl sz56 (by first | omega | with_reducible assumption | (simp only [u32s_length, bys_length, i64s_length, List.length_append]; omega) | (simp only [List.length_set, List.length_append, List.length_replicate, u32s_length, bys_length, *] <;> first | done | omega) | rfl) ?_) | (refine l_store1 2 rfl rfl rfl sz56 rfl (by first | decide | simp) ?_)
  simp only [List.set_cons_zero, List.set_cons_succ]
  refine vl_nil ?_
  refine (th_n ?_)
  refine VC_seq ?_
  refine VC_region ?_
  first | (refine vl_v (q_idxA (m := 13) Try.underlying81 sz56 rfl rfl (by omega) (r := _) (by rw [Nat.mul_one, Nat.zero_add])) rfl ?_) | (refine vl_v (q_idxA (m := 13) Try.underlying81 sz56 rfl rfl (by omega) rfl) rfl ?_)
  first | (refine vl_v (q_load 2 Try.underlying56 rfl rfl rfl (u32s_at (by first | omega | with_reducible assumption | (simp only [u32s_length, bys_length, i64s_length, List.length_append]; omega) | (simp only [List.length_set, List.length_append, List.length_replicate, u32s_length, bys_length, *] <;> first | done | omega) | rfl))) rfl ?_) | (refine vl_v (q_load 2 Try.underlying56 rfl rfl rfl rfl) rfl ?_)
  refine vl_v (q_move rfl) rfl ?_
  refine vl_v (q_as (v := vU64 (UInt64.ofNat (t.toNat / 2 ^ 32))) (q_shr_u64 (m := 32) rfl rfl) rfl) rfl ?_
  refine vl_v (q_conv_k (r := ((UInt32.ofNat (t.toNat / 2 ^ 32)).toNat : Int)) Try.underlying61 Try.underlying56 rfl (by have ht := UInt64.toNat_lt t; rw [IntKind.wrap_u32, UInt32.toNat_ofNat', UInt64.toNat_ofNat']; omega)) rfl ?_
  refine vl_v (q_xor_u32 rfl rfl) rfl ?_
  first | (refine vl_v (q_idxA (m := 13) Try.underlying81 sz56 rfl rfl (by omega) (r := _) (by rw [Nat.mul_one, Nat.zero_add])) rfl ?_) | (refine vl_v (q_idxA (m := 13) Try.underlying81 sz56 rfl rfl (by omega) rfl) rfl ?_)
  first | (refine l_stU32 2 rfl rfl rfl sz56 (by first | omega | with_reducible assumption | (simp only [u32s_length, bys_length, i64s_length, List.length_append]; omega) | (simp only [List.length_set, List.length_append, List.length_replicate, u32s_length, bys_length, *] <;> first | done | omega) | rfl) ?_) | (refine l_store1 2 rfl rfl rfl sz56 rfl (by first | decide | simp) ?_)
  simp only [List.set_cons_zero, List.set_cons_succ]
  refine vl_nil ?_
  refine (th_n ?_)
  refine VC_seq ?_
  refine VC_seq ?_
  refine VC_region ?_
  refine vl_v (q_move rfl) rfl ?_
  refine vl_nil ?_
  refine (th_n ?_)
  refine VC_no (rfl) ?_
  refine VC_skip ?_
  refine (th_n ?_)
  refine VC_seq ?_
  refine VC_seq ?_
  refine VC_region ?_
  refine vl_v (q_move rfl) rfl ?_
  refine vl_nil ?_
  refine (th_n ?_)
  refine VC_block ?_
  refine VC_loop (ι := Nat) (fun i => i ≤ 16) (fun i => [(0, vP bh 0), (1, vP bb o), (8, vP b8 0), (9, vP b9 0), (44, vN i)]) (fun i => .blk b9 81 (u32s (wordsB blk i)) :: .blk b8 81 (u32s v0) :: .blk bh 58 (u32s h) :: .blk bb T c :: R) (fun i => 16 - i) 0 (by omega) (Sub.cons (s := 0) rfl (Sub.cons (s := 1) rfl (Sub.cons (s := 8) rfl (Sub.cons (s := 9) rfl (Sub.cons (s := 44) rfl (Sub.nil _)))))) (fun w' H => by rw [hve]; exact St.pickR 5 H (ks := [1, 2, 3, 4]) (by decide) (by decide) rfl rfl) ?_
  rintro i hp
  have hwi := wordsB_length blk i
  refine VC_seq ?_
  refine VC_region ?_
  first | (refine vl_v (q_lss_n (q := 16) Try.underlying3 rfl rfl) rfl ?_) | (refine vl_v (q_lss_k Try.underlying3 rfl rfl) rfl ?_)
  refine vl_nil ?_
  refine (th_n ?_)
  refine VC_seq ?_
  refine VC_cond rfl (fun ht45 => ?_) (fun ht45 => ?_)
  · skip
    have ht45 := of_decide_eq_true ht45
    refine VC_skip ?_
    refine (th_n ?_)
    refine VC_seq ?_
    refine VC_block ?_
    refine VC_seq ?_
    refine VC_region ?_
    refine vl_v (q_move rfl) rfl ?_
    refine vl_v (q_assign rfl) rfl ?_
    refine vl_nil ?_
    refine (th_n ?_)
    refine VC_region ?_
    refine vl_v (q_move rfl) rfl ?_
    refine vl_v (q_move rfl) rfl ?_
    refine vl_v (q_nilck rfl) rfl ?_
    refine vl_v (q_move rfl) rfl ?_
    first | (refine vl_v (q_mul_n (p := 4) rfl rfl (by omega)) rfl ?_) | (refine vl_v (q_mul_i rfl rfl (by omega) (by omega)) rfl ?_)
    refine vl_v (q_move rfl) rfl ?_
    first | (refine vl_v (q_mul_n (p := 4) rfl rfl (by omega)) rfl ?_) | (refine vl_v (q_mul_i rfl rfl (by omega) (by omega)) rfl ?_)
    first | (refine vl_v (q_add_n (q := 4) rfl rfl (by omega)) rfl ?_) | (refine vl_v (q_add_i rfl rfl (by omega) (by omega)) rfl ?_)
    refine vl_v (q_slcA Try.underlying64 sz5 rfl ⟨_, rfl⟩ ⟨_, rfl⟩ rfl (.inl rfl) (by omega) (by omega) (by omega) (by omega) (by (try simp only [Nat.mul_one, Nat.zero_add, Nat.zero_mul, Nat.mul_zero, Nat.add_zero]) <;> rfl)) rfl ?_
    refine vl_v (q_callV Try.func52 rfl rfl rfl (fun w1 H1 => of4 (l := (blk.drop (4 * i)).take 4) 3 (o + 4 * i) _ _ H1 rfl (by rw [List.length_take, List.length_drop]; omega) (blkPart hc hb (by omega)) (by omega) (by omega))) rfl ?_
    refine vl_v (q_as (v := vU32 (word32 (blk.drop (4 * i)))) (q_conv_nu32 Try.underlying61 Try.underlying56 rfl) (by rw [List.take_take]; rfl)) rfl ?_
    first | (refine vl_v (q_idxA Try.underlying81 sz56 rfl rfl (by omega) (r := _) (by rw [Nat.mul_one, Nat.zero_add])) rfl ?_) | (refine vl_v (q_idxA Try.underlying81 sz56 rfl rfl (by omega) rfl) rfl ?_)
    first | (refine l_stU32 0 rfl rfl rfl sz56 (by first | omega | with_reducible assumption | (simp only [u32s_length, bys_length, i64s_length, List.length_append]; omega) | (simp only [List.length_set, List.length_append, List.length_replicate, u32s_length, bys_length, *] <;> first | done | omega) | rfl) ?_) | (refine l_store1 0 rfl rfl rfl sz56 rfl (by first | decide | simp) ?_)
    simp only [List.set_cons_zero, List.set_cons_succ]
    refine vl_nil ?_
    refine (bl_n (th_n ?_))
    refine VC_region ?_
    first | (refine vl_v (q_add_n (q := 1) rfl rfl (by omega)) rfl ?_) | (refine vl_v (q_add_i rfl rfl (by omega) (by omega)) rfl ?_)
    refine vl_v (q_move rfl) rfl ?_
    refine vl_nil ?_
    refine (th_n ?_)
    refine ⟨i + 1, by omega, by omega, (Sub.cons (s := 0) rfl (Sub.cons (s := 1) rfl (Sub.cons (s := 8) rfl (Sub.cons (s := 9) rfl (Sub.cons (s := 44) rfl (Sub.nil _)))))), fun w H => H⟩
  · skip
    have ht45 := of_decide_eq_false ht45
    obtain rfl : i = 16 := by omega
    rw [← hme]
    refine VC_exit ?_
    refine (th_x (th_x (bl_xs (th_n ?_))))
    refine VC_seq ?_
    refine VC_seq ?_
    refine VC_region ?_
    refine l_callP Try.func53 rfl rfl rfl (fun w1 H1 => rows_calls w1) rfl ?_
    intro b60
    refine vl_v (q_nilck rfl) rfl ?_
    refine vl_v (q_move rfl) rfl ?_
    refine vl_nil ?_
    refine (th_n ?_)
    refine VC_block ?_
    refine VC_loop (ι := Nat) (fun r => r ≤ 10) (fun r => [(0, vP bh 0), (8, vP b8 0), (9, vP b9 0), (60, vP b60 0), (62, vN r)]) (fun r => .blk b8 81 (u32s (rndsM v0 m16 r)) :: .blk b9 81 (u32s m16) :: .blk b60 96 (bys sRows.flatten) :: .blk bh 58 (u32s h) :: .blk bb T c :: R) (fun r => 10 - r) 0 (by omega) (Sub.cons (s := 0) rfl (Sub.cons (s := 8) rfl (Sub.cons (s := 9) rfl (Sub.cons (s := 60) rfl (Sub.cons (s := 62) rfl (Sub.nil _)))))) (fun w H => St.pickR 5 H (ks := [2, 1, 0, 3, 4]) (by decide) (by decide) rfl rfl) ?_
    rintro r hp
    have hrl := (rndsM_length v0 m16 r).trans hv0
    refine VC_seq ?_
    refine VC_region ?_
    first | (refine vl_v (q_lss_n (q := 10) Try.underlying3 rfl rfl) rfl ?_) | (refine vl_v (q_lss_k Try.underlying3 rfl rfl) rfl ?_)
    refine vl_nil ?_
    refine (th_n ?_)
    refine VC_seq ?_
    refine VC_cond rfl (fun ht63 => ?_) (fun ht63 => ?_)
    · skip
      have ht63 := of_decide_eq_true ht63
      refine VC_skip ?_
      refine (th_n ?_)
      refine VC_seq ?_
      refine VC_block ?_
      refine VC_seq ?_
      refine VC_region ?_
      have hs16 := sRow_length (r := r) (by omega)
      refine vl_v (q_nilck rfl) rfl ?_
      refine vl_v (q_idxA Try.underlying96 sz86 rfl rfl (by omega) rfl) rfl ?_
      first | (refine vl_v (q_loads 2 Try.underlying86 rfl rfl rfl sz86 (by first | omega | with_reducible assumption | (simp only [u32s_length, bys_length, i64s_length, List.length_append]; omega) | (simp only [List.length_set, List.length_append, List.length_replicate, u32s_length, bys_length, *] <;> first | done | omega) | rfl)) rfl ?_) | (refine vl_v (q_loadsAt 2 Try.underlying86 rfl rfl rfl sz86 (by exact rowPart (by omega)) (by first | omega | with_reducible assumption | (simp only [u32s_length, bys_length, i64s_length, List.length_append]; omega) | (simp only [List.length_set, List.length_append, List.length_replicate, u32s_length, bys_length, *] <;> first | done | omega) | rfl)) rfl ?_)
      refine l_allocA zr86 rfl ?_
      intro b13
      refine l_storeA 0 rfl rfl rfl sz86 (by first | omega | with_reducible assumption | (simp only [u32s_length, bys_length, i64s_length, List.length_append]; omega) | (simp only [List.length_set, List.length_append, List.length_replicate, u32s_length, bys_length, *] <;> first | done | omega) | rfl) (by first | (with_reducible first | exact bys_one _ | exact u32s_one _ | exact u64s_one _ | exact i64s_one _ | exact n64s_one _ | assumption) | exact bys_one _ | exact u32s_one _ | exact u64s_one _ | exact i64s_one _ | exact one_all rfl | (refine app_one ?_ ?_ <;> first | exact bys_one _ | (simp; done))) (by first | omega | with_reducible assumption | (simp only [u32s_length, bys_length, i64s_length, List.length_append]; omega) | (simp only [List.length_set, List.length_append, List.length_replicate, u32s_length, bys_length, *] <;> first | done | omega) | rfl) ?_
      simp only [List.set_cons_zero, List.set_cons_succ]
      refine vl_nil ?_
      refine (th_n ?_)
      refine VC_seq ?_
      refine VC_seq ?_
      refine VC_region ?_
      refine vl_v (q_move rfl) rfl ?_
      refine vl_nil ?_
      refine (th_n ?_)
      refine VC_block ?_
      refine VC_loop (ι := Nat) (fun k => k ≤ 4) (fun k => [(0, vP bh 0), (8, vP b8 0), (9, vP b9 0), (13, vP b13 0), (60, vP b60 0), (62, vN r), (67, vN k)]) (fun k => .blk b8 81 (u32s (colsM (rndsM v0 m16 r) m16 r k)) :: .blk b13 86 (bys (sRow r)) :: .blk b9 81 (u32s m16) :: .blk b60 96 (bys sRows.flatten) :: .blk bh 58 (u32s h) :: .blk bb T c :: R) (fun k => 4 - k) 0 (by omega) (Sub.cons (s := 0) rfl (Sub.cons (s := 8) rfl (Sub.cons (s := 9) rfl (Sub.cons (s := 13) rfl (Sub.cons (s := 60) rfl (Sub.cons (s := 62) rfl (Sub.cons (s := 67) rfl (Sub.nil _)))))))) (fun w H => St.pickR 6 H (ks := [1, 0, 2, 3, 4, 5]) (by decide) (by decide) rfl rfl) ?_
      rintro k hp
      have hcl4 := (colsM_length (rndsM v0 m16 r) m16 r k).trans hrl
      refine VC_seq ?_
      refine VC_region ?_
      first | (refine vl_v (q_lss_n (q := 4) Try.underlying3 rfl rfl) rfl ?_) | (refine vl_v (q_lss_k Try.underlying3 rfl rfl) rfl ?_)
      refine vl_nil ?_
      refine (th_n ?_)
      refine VC_seq ?_
      refine VC_cond rfl (fun ht68 => ?_) (fun ht68 => ?_)
      · skip
        have ht68 := of_decide_eq_true ht68
        refine VC_skip ?_
        refine (th_n ?_)
        refine VC_seq ?_
        refine VC_block ?_
        refine VC_seq ?_
        refine VC_region ?_
        refine vl_v (q_move rfl) rfl ?_
        refine vl_v (q_assign rfl) rfl ?_
        refine vl_nil ?_
        refine (th_n ?_)
        have s1 : ((sRow r).getD (2 * k) 0).toNat < 16 := sg_lt (by omega) (by omega)
        have s2 : ((sRow r).getD (2 * k + 1) 0).toNat < 16 := sg_lt (by omega) (by omega)
        refine VC_drawV 24 [[], [0], [], [2], [3], [], [5], [6], [], [8], [9], [], [11], [12], [13], [14], [15], [], [17], [18], [19], [20], [21], [22], [1, 4, 7, 10, 16, 23]] [[], [0], [], [2], [2, 3], [], [5], [5, 6], [], [8], [8, 9], [], [11], [11, 12], [11, 12, 13], [11, 12, 13, 14], [11, 12, 13, 14, 15], [], [17], [17, 18], [17, 18, 19], [17, 18, 19, 20], [17, 18, 19, 20, 21], [17, 18, 19, 20, 21, 22], [0, 1, 2, 3, 4, 5, 6, 7, 8, 9, 10, 11, 12, 13, 14, 15, 16, 17, 18, 19, 20, 21, 22, 23]] rfl (by kernel_rfl) ?_
        refine qv_v (q_move rfl) ?_
        first | (refine qv_v (q_idxA Try.underlying81 sz56 rfl rfl (by omega) (r := _) (by rw [Nat.mul_one, Nat.zero_add])) ?_) | (refine qv_v (q_idxA Try.underlying81 sz56 rfl rfl (by omega) rfl) ?_)
        refine qv_v (q_move rfl) ?_
        first | (refine qv_v (q_add_n (p := 4) rfl rfl (by omega)) ?_) | (refine qv_v (q_add_i rfl rfl (by omega) (by omega)) ?_)
        first | (refine qv_v (q_idxA Try.underlying81 sz56 rfl rfl (by omega) (r := _) (by rw [Nat.mul_one, Nat.zero_add])) ?_) | (refine qv_v (q_idxA Try.underlying81 sz56 rfl rfl (by omega) rfl) ?_)
        refine qv_v (q_move rfl) ?_
        first | (refine qv_v (q_add_n (p := 8) rfl rfl (by omega)) ?_) | (refine qv_v (q_add_i rfl rfl (by omega) (by omega)) ?_)
        first | (refine qv_v (q_idxA Try.underlying81 sz56 rfl rfl (by omega) (r := _) (by rw [Nat.mul_one, Nat.zero_add])) ?_) | (refine qv_v (q_idxA Try.underlying81 sz56 rfl rfl (by omega) rfl) ?_)
        refine qv_v (q_move rfl) ?_
        first | (refine qv_v (q_add_n (p := 12) rfl rfl (by omega)) ?_) | (refine qv_v (q_add_i rfl rfl (by omega) (by omega)) ?_)
        first | (refine qv_v (q_idxA Try.underlying81 sz56 rfl rfl (by omega) (r := _) (by rw [Nat.mul_one, Nat.zero_add])) ?_) | (refine qv_v (q_idxA Try.underlying81 sz56 rfl rfl (by omega) rfl) ?_)
        refine qv_v (q_move rfl) ?_
        first | (refine qv_v (q_mul_n (p := 2) rfl rfl (by omega)) ?_) | (refine qv_v (q_mul_i rfl rfl (by omega) (by omega)) ?_)
        first | (refine qv_v (q_idxA Try.underlying86 sz5 rfl rfl (by omega) (r := _) (by rw [Nat.mul_one, Nat.zero_add])) ?_) | (refine qv_v (q_idxA Try.underlying86 sz5 rfl rfl (by omega) rfl) ?_)
        first | (refine qv_v (q_load 1 Try.underlying5 rfl rfl rfl (bys_at (by first | omega | with_reducible assumption | (simp only [u32s_length, bys_length, i64s_length, List.length_append]; omega) | (simp only [List.length_set, List.length_append, List.length_replicate, u32s_length, bys_length, *] <;> first | done | omega) | rfl))) ?_) | (refine qv_v (q_load 1 Try.underlying5 rfl rfl rfl rfl) ?_)
        first | (refine qv_v (q_idxA Try.underlying81 sz56 rfl rfl (by omega) (r := _) (by rw [Nat.mul_one, Nat.zero_add])) ?_) | (refine qv_v (q_idxA Try.underlying81 sz56 rfl rfl (by omega) rfl) ?_)
        first | (refine qv_v (q_load 2 Try.underlying56 rfl rfl rfl (u32s_at (by first | omega | with_reducible assumption | (simp only [u32s_length, bys_length, i64s_length, List.length_append]; omega) | (simp only [List.length_set, List.length_append, List.length_replicate, u32s_length, bys_length, *] <;> first | done | omega) | rfl))) ?_) | (refine qv_v (q_load 2 Try.underlying56 rfl rfl rfl rfl) ?_)
        refine qv_v (q_move rfl) ?_
        first | (refine qv_v (q_mul_n (p := 2) rfl rfl (by omega)) ?_) | (refine qv_v (q_mul_i rfl rfl (by omega) (by omega)) ?_)
        first | (refine qv_v (q_add_n (q := 1) rfl rfl (by omega)) ?_) | (refine qv_v (q_add_i rfl rfl (by omega) (by omega)) ?_)
        first | (refine qv_v (q_idxA Try.underlying86 sz5 rfl rfl (by omega) (r := _) (by rw [Nat.mul_one, Nat.zero_add])) ?_) | (refine qv_v (q_idxA Try.underlying86 sz5 rfl rfl (by omega) rfl) ?_)
        first | (refine qv_v (q_load 1 Try.underlying5 rfl rfl rfl (bys_at (by first | omega | with_reducible assumption | (simp only [u32s_length, bys_length, i64s_length, List.length_append]; omega) | (simp only [List.length_set, List.length_append, List.length_replicate, u32s_length, bys_length, *] <;> first | done | omega) | rfl))) ?_) | (refine qv_v (q_load 1 Try.underlying5 rfl rfl rfl rfl) ?_)
        first | (refine qv_v (q_idxA Try.underlying81 sz56 rfl rfl (by omega) (r := _) (by rw [Nat.mul_one, Nat.zero_add])) ?_) | (refine qv_v (q_idxA Try.underlying81 sz56 rfl rfl (by omega) rfl) ?_)
        first | (refine qv_v (q_load 2 Try.underlying56 rfl rfl rfl (u32s_at (by first | omega | with_reducible assumption | (simp only [u32s_length, bys_length, i64s_length, List.length_append]; omega) | (simp only [List.length_set, List.length_append, List.length_replicate, u32s_length, bys_length, *] <;> first | done | omega) | rfl))) ?_) | (refine qv_v (q_load 2 Try.underlying56 rfl rfl rfl rfl) ?_)
        refine qv_end ?_
        refine VL.keep (Sub.cons (s := 0) rfl (Sub.cons (s := 8) rfl (Sub.cons (s := 9) rfl (Sub.cons (s := 13) rfl (Sub.cons (s := 60) rfl (Sub.cons (s := 62) rfl (Sub.cons (s := 67) rfl (Sub.cons (s := 68) rfl (Sub.cons (s := 14) rfl (Sub.cons (s := 71) rfl (Sub.cons (s := 74) rfl (Sub.cons (s := 77) rfl (Sub.cons (s := 80) rfl (Sub.cons (s := 86) rfl (Sub.cons (s := 93) rfl (Sub.nil _)))))))))))))))) ?_
        refine l_callE Try.func54 rfl rfl rfl (fun w1 H1 => mix_calls (colsM (rndsM v0 m16 r) m16 r k) k (4 + k) (8 + k) (12 + k) _ _ b8 hcl4 (by omega) (by omega) (by omega) (by omega) w1 H1) rfl ?_
        refine vl_nil ?_
        refine (qn_n (bl_n (th_n ?_)))
        refine VC_region ?_
        first | (refine vl_v (q_add_n (q := 1) rfl rfl (by omega)) rfl ?_) | (refine vl_v (q_add_i rfl rfl (by omega) (by omega)) rfl ?_)
        refine vl_v (q_move rfl) rfl ?_
        refine vl_nil ?_
        refine (th_n ?_)
        refine ⟨k + 1, by omega, by omega, (Sub.cons (s := 0) rfl (Sub.cons (s := 8) rfl (Sub.cons (s := 9) rfl (Sub.cons (s := 13) rfl (Sub.cons (s := 60) rfl (Sub.cons (s := 62) rfl (Sub.cons (s := 67) rfl (Sub.nil _)))))))), fun w H => H⟩
      · skip
        have ht68 := of_decide_eq_false ht68
        obtain rfl : k = 4 := by omega
        refine VC_exit ?_
        refine (th_x (th_x (bl_xs (th_n ?_))))
        refine VC_seq ?_
        refine VC_region ?_
        refine vl_v (q_move rfl) rfl ?_
        refine vl_nil ?_
        refine (th_n ?_)
        refine VC_block ?_
        refine VC_loop (ι := Nat) (fun q => q ≤ 4) (fun q => [(0, vP bh 0), (8, vP b8 0), (9, vP b9 0), (13, vP b13 0), (60, vP b60 0), (62, vN r), (96, vN q)]) (fun q => .blk b8 81 (u32s (diagsM (colsM (rndsM v0 m16 r) m16 r 4) m16 r q)) :: .blk b13 86 (bys (sRow r)) :: .blk b9 81 (u32s m16) :: .blk b60 96 (bys sRows.flatten) :: .blk bh 58 (u32s h) :: .blk bb T c :: R) (fun q => 4 - q) 0 (by omega) (Sub.cons (s := 0) rfl (Sub.cons (s := 8) rfl (Sub.cons (s := 9) rfl (Sub.cons (s := 13) rfl (Sub.cons (s := 60) rfl (Sub.cons (s := 62) rfl (Sub.cons (s := 96) rfl (Sub.nil _)))))))) (fun w H => H) ?_
        rintro q hp
        have hdl := (diagsM_length (colsM (rndsM v0 m16 r) m16 r 4) m16 r q).trans hcl4
        refine VC_seq ?_
        refine VC_region ?_
        first | (refine vl_v (q_lss_n (q := 4) Try.underlying3 rfl rfl) rfl ?_) | (refine vl_v (q_lss_k Try.underlying3 rfl rfl) rfl ?_)
        refine vl_nil ?_
        refine (th_n ?_)
        refine VC_seq ?_
        refine VC_cond rfl (fun ht97 => ?_) (fun ht97 => ?_)
        · skip
          have ht97 := of_decide_eq_true ht97
          refine VC_skip ?_
          refine (th_n ?_)
          refine VC_seq ?_
          refine VC_block ?_
          refine VC_seq ?_
          refine VC_region ?_
          refine vl_v (q_move rfl) rfl ?_
          refine vl_v (q_assign rfl) rfl ?_
          refine vl_nil ?_
          refine (th_n ?_)
          have s1 : ((sRow r).getD (8 + 2 * q) 0).toNat < 16 := sg_lt (by omega) (by omega)
          have s2 : ((sRow r).getD (9 + 2 * q) 0).toNat < 16 := sg_lt (by omega) (by omega)
          refine VC_drawV 31 [[], [0], [], [2], [3], [4], [5], [], [7], [8], [9], [10], [], [12], [13], [14], [15], [], [17], [18], [19], [20], [21], [22], [], [24], [25], [26], [27], [28], [29], [1, 6, 11, 16, 23, 30]] [[], [0], [], [2], [2, 3], [2, 3, 4], [2, 3, 4, 5], [], [7], [7, 8], [7, 8, 9], [7, 8, 9, 10], [], [12], [12, 13], [12, 13, 14], [12, 13, 14, 15], [], [17], [17, 18], [17, 18, 19], [17, 18, 19, 20], [17, 18, 19, 20, 21], [17, 18, 19, 20, 21, 22], [], [24], [24, 25], [24, 25, 26], [24, 25, 26, 27], [24, 25, 26, 27, 28], [24, 25, 26, 27, 28, 29], [0, 1, 2, 3, 4, 5, 6, 7, 8, 9, 10, 11, 12, 13, 14, 15, 16, 17, 18, 19, 20, 21, 22, 23, 24, 25, 26, 27, 28, 29, 30]] rfl (by kernel_rfl) ?_
          refine qv_v (q_move rfl) ?_
          first | (refine qv_v (q_idxA Try.underlying81 sz56 rfl rfl (by omega) (r := _) (by rw [Nat.mul_one, Nat.zero_add])) ?_) | (refine qv_v (q_idxA Try.underlying81 sz56 rfl rfl (by omega) rfl) ?_)
          refine qv_v (q_move rfl) ?_
          first | (refine qv_v (q_add_n (q := 1) rfl rfl (by omega)) ?_) | (refine qv_v (q_add_i rfl rfl (by omega) (by omega)) ?_)
          refine qv_v (q_rem_n (q := 4) rfl rfl (by omega)) ?_
          first | (refine qv_v (q_add_n (p := 4) rfl rfl (by omega)) ?_) | (refine qv_v (q_add_i rfl rfl (by omega) (by omega)) ?_)
          first | (refine qv_v (q_idxA Try.underlying81 sz56 rfl rfl (by omega) (r := _) (by rw [Nat.mul_one, Nat.zero_add])) ?_) | (refine qv_v (q_idxA Try.underlying81 sz56 rfl rfl (by omega) rfl) ?_)
          refine qv_v (q_move rfl) ?_
          first | (refine qv_v (q_add_n (q := 2) rfl rfl (by omega)) ?_) | (refine qv_v (q_add_i rfl rfl (by omega) (by omega)) ?_)
          refine qv_v (q_rem_n (q := 4) rfl rfl (by omega)) ?_
          first | (refine qv_v (q_add_n (p := 8) rfl rfl (by omega)) ?_) | (refine qv_v (q_add_i rfl rfl (by omega) (by omega)) ?_)
          first | (refine qv_v (q_idxA Try.underlying81 sz56 rfl rfl (by omega) (r := _) (by rw [Nat.mul_one, Nat.zero_add])) ?_) | (refine qv_v (q_idxA Try.underlying81 sz56 rfl rfl (by omega) rfl) ?_)
          refine qv_v (q_move rfl) ?_
          first | (refine qv_v (q_add_n (q := 3) rfl rfl (by omega)) ?_) | (refine qv_v (q_add_i rfl rfl (by omega) (by omega)) ?_)
          refine qv_v (q_rem_n (q := 4) rfl rfl (by omega)) ?_
          first | (refine qv_v (q_add_n (p := 12) rfl rfl (by omega)) ?_) | (refine qv_v (q_add_i rfl rfl (by omega) (by omega)) ?_)
          first | (refine qv_v (q_idxA Try.underlying81 sz56 rfl rfl (by omega) (r := _) (by rw [Nat.mul_one, Nat.zero_add])) ?_) | (refine qv_v (q_idxA Try.underlying81 sz56 rfl rfl (by omega) rfl) ?_)
          refine qv_v (q_move rfl) ?_
          first | (refine qv_v (q_mul_n (p := 2) rfl rfl (by omega)) ?_) | (refine qv_v (q_mul_i rfl rfl (by omega) (by omega)) ?_)
          first | (refine qv_v (q_add_n (p := 8) rfl rfl (by omega)) ?_) | (refine qv_v (q_add_i rfl rfl (by omega) (by omega)) ?_)
          first | (refine qv_v (q_idxA Try.underlying86 sz5 rfl rfl (by omega) (r := _) (by rw [Nat.mul_one, Nat.zero_add])) ?_) | (refine qv_v (q_idxA Try.underlying86 sz5 rfl rfl (by omega) rfl) ?_)
          first | (refine qv_v (q_load 1 Try.underlying5 rfl rfl rfl (bys_at (by first | omega | with_reducible assumption | (simp only [u32s_length, bys_length, i64s_length, List.length_append]; omega) | (simp only [List.length_set, List.length_append, List.length_replicate, u32s_length, bys_length, *] <;> first | done | omega) | rfl))) ?_) | (refine qv_v (q_load 1 Try.underlying5 rfl rfl rfl rfl) ?_)
          first | (refine qv_v (q_idxA Try.underlying81 sz56 rfl rfl (by omega) (r := _) (by rw [Nat.mul_one, Nat.zero_add])) ?_) | (refine qv_v (q_idxA Try.underlying81 sz56 rfl rfl (by omega) rfl) ?_)
          first | (refine qv_v (q_load 2 Try.underlying56 rfl rfl rfl (u32s_at (by first | omega | with_reducible assumption | (simp only [u32s_length, bys_length, i64s_length, List.length_append]; omega) | (simp only [List.length_set, List.length_append, List.length_replicate, u32s_length, bys_length, *] <;> first | done | omega) | rfl))) ?_) | (refine qv_v (q_load 2 Try.underlying56 rfl rfl rfl rfl) ?_)
          refine qv_v (q_move rfl) ?_
          first | (refine qv_v (q_mul_n (p := 2) rfl rfl (by omega)) ?_) | (refine qv_v (q_mul_i rfl rfl (by omega) (by omega)) ?_)
          first | (refine qv_v (q_add_n (p := 9) rfl rfl (by omega)) ?_) | (refine qv_v (q_add_i rfl rfl (by omega) (by omega)) ?_)
          first | (refine qv_v (q_idxA Try.underlying86 sz5 rfl rfl (by omega) (r := _) (by rw [Nat.mul_one, Nat.zero_add])) ?_) | (refine qv_v (q_idxA Try.underlying86 sz5 rfl rfl (by omega) rfl) ?_)
          first | (refine qv_v (q_load 1 Try.underlying5 rfl rfl rfl (bys_at (by first | omega | with_reducible assumption | (simp only [u32s_length, bys_length, i64s_length, List.length_append]; omega) | (simp only [List.length_set, List.length_append, List.length_replicate, u32s_length, bys_length, *] <;> first | done | omega) | rfl))) ?_) | (refine qv_v (q_load 1 Try.underlying5 rfl rfl rfl rfl) ?_)
          first | (refine qv_v (q_idxA Try.underlying81 sz56 rfl rfl (by omega) (r := _) (by rw [Nat.mul_one, Nat.zero_add])) ?_) | (refine qv_v (q_idxA Try.underlying81 sz56 rfl rfl (by omega) rfl) ?_)
          first | (refine qv_v (q_load 2 Try.underlying56 rfl rfl rfl (u32s_at (by first | omega | with_reducible assumption | (simp only [u32s_length, bys_length, i64s_length, List.length_append]; omega) | (simp only [List.length_set, List.length_append, List.length_replicate, u32s_length, bys_length, *] <;> first | done | omega) | rfl))) ?_) | (refine qv_v (q_load 2 Try.underlying56 rfl rfl rfl rfl) ?_)
          refine qv_end ?_
          refine VL.keep (Sub.cons (s := 0) rfl (Sub.cons (s := 8) rfl (Sub.cons (s := 9) rfl (Sub.cons (s := 13) rfl (Sub.cons (s := 60) rfl (Sub.cons (s := 62) rfl (Sub.cons (s := 96) rfl (Sub.cons (s := 97) rfl (Sub.cons (s := 15) rfl (Sub.cons (s := 100) rfl (Sub.cons (s := 105) rfl (Sub.cons (s := 110) rfl (Sub.cons (s := 115) rfl (Sub.cons (s := 122) rfl (Sub.cons (s := 129) rfl (Sub.nil _)))))))))))))))) ?_
          refine l_callE Try.func54 rfl rfl rfl (fun w1 H1 => mix_calls (diagsM (colsM (rndsM v0 m16 r) m16 r 4) m16 r q) q (4 + (q + 1) % 4) (8 + (q + 2) % 4) (12 + (q + 3) % 4) _ _ b8 hdl (by omega) (by omega) (by omega) (by omega) w1 H1) rfl ?_
          refine vl_nil ?_
          refine (qn_n (bl_n (th_n ?_)))
          refine VC_region ?_
          first | (refine vl_v (q_add_n (q := 1) rfl rfl (by omega)) rfl ?_) | (refine vl_v (q_add_i rfl rfl (by omega) (by omega)) rfl ?_)
          refine vl_v (q_move rfl) rfl ?_
          refine vl_nil ?_
          refine (th_n ?_)
          refine ⟨q + 1, by omega, by omega, (Sub.cons (s := 0) rfl (Sub.cons (s := 8) rfl (Sub.cons (s := 9) rfl (Sub.cons (s := 13) rfl (Sub.cons (s := 60) rfl (Sub.cons (s := 62) rfl (Sub.cons (s := 96) rfl (Sub.nil _)))))))), fun w H => H⟩
        · skip
          have ht97 := of_decide_eq_false ht97
          obtain rfl : q = 4 := by omega
          refine VC_exit ?_
          refine (th_x (th_x (bl_xs (bl_n (th_n ?_)))))
          refine VC_region ?_
          first | (refine vl_v (q_add_n (q := 1) rfl rfl (by omega)) rfl ?_) | (refine vl_v (q_add_i rfl rfl (by omega) (by omega)) rfl ?_)
          refine vl_v (q_move rfl) rfl ?_
          refine vl_nil ?_
          refine (th_n ?_)
          refine ⟨r + 1, by omega, by omega, (Sub.cons (s := 0) rfl (Sub.cons (s := 8) rfl (Sub.cons (s := 9) rfl (Sub.cons (s := 60) rfl (Sub.cons (s := 62) rfl (Sub.nil _)))))), fun w H => St.pickR 6 H (ks := [0, 2, 3, 4, 5]) (by decide) (by decide) rfl rfl⟩
    · skip
      have ht63 := of_decide_eq_false ht63
      obtain rfl : r = 10 := by omega
      refine VC_exit ?_
      refine (th_x (th_x (bl_xs (th_n ?_))))
      refine VC_seq ?_
      refine VC_region ?_
      refine vl_v (q_move rfl) rfl ?_
      refine vl_nil ?_
      refine (th_n ?_)
      refine VC_block ?_
      refine VC_loop (ι := Nat) (fun z => z ≤ 8) (fun z => [(0, vP bh 0), (8, vP b8 0), (133, vN z)]) (fun z => .blk b8 81 (u32s (rndsM v0 m16 10)) :: .blk bh 58 (u32s (xorV h (rndsM v0 m16 10) z)) :: .blk bb T c :: R) (fun z => 8 - z) 0 (by omega) (Sub.cons (s := 0) rfl (Sub.cons (s := 8) rfl (Sub.cons (s := 133) rfl (Sub.nil _)))) (fun w H => St.pickR 5 H (ks := [0, 3, 4]) (by decide) (by decide) rfl rfl) ?_
      rintro z hp
      have hxl := (xorV_length h (rndsM v0 m16 10) z).trans hh
      refine VC_seq ?_
      refine VC_region ?_
      first | (refine vl_v (q_lss_n (q := 8) Try.underlying3 rfl rfl) rfl ?_) | (refine vl_v (q_lss_k Try.underlying3 rfl rfl) rfl ?_)
      refine vl_nil ?_
      refine (th_n ?_)
      refine VC_seq ?_
      refine VC_cond rfl (fun ht134 => ?_) (fun ht134 => ?_)
      · skip
        have ht134 := of_decide_eq_true ht134
        refine VC_skip ?_
        refine (th_n ?_)
        refine VC_seq ?_
        refine VC_block ?_
        refine VC_seq ?_
        refine VC_region ?_
        refine vl_v (q_move rfl) rfl ?_
        refine vl_v (q_assign rfl) rfl ?_
        refine vl_nil ?_
        refine (th_n ?_)
        refine VC_drawV 15 [[], [], [0], [2, 1], [3], [], [5], [6], [], [8], [9], [10], [7, 11], [4, 12], [0], [14, 1, 0, 2, 3, 4, 5, 6, 7, 8, 9, 10, 11, 12, 13], [15, 13, 0, 1, 2, 3, 4, 5, 6, 7, 8, 9, 10, 11, 12]] [[], [], [0], [0, 1, 2], [0, 1, 2, 3], [], [5], [5, 6], [], [8], [8, 9], [8, 9, 10], [5, 6, 7, 8, 9, 10, 11], [0, 1, 2, 3, 4, 5, 6, 7, 8, 9, 10, 11, 12], [0], [0, 1, 2, 3, 4, 5, 6, 7, 8, 9, 10, 11, 12, 13, 14], [0, 1, 2, 3, 4, 5, 6, 7, 8, 9, 10, 11, 12, 13, 14, 15]] rfl (by kernel_rfl) ?_
        refine qv_v (q_move rfl) ?_
        refine qv_v (q_move rfl) ?_
        refine qv_v (q_nilck rfl) ?_
        first | (refine qv_v (q_idxA Try.underlying58 sz56 rfl rfl (by omega) (r := _) (by rw [Nat.mul_one, Nat.zero_add])) ?_) | (refine qv_v (q_idxA Try.underlying58 sz56 rfl rfl (by omega) rfl) ?_)
        first | (refine qv_v (q_load 1 Try.underlying56 rfl rfl rfl (u32s_at (by first | omega | with_reducible assumption | (simp only [u32s_length, bys_length, i64s_length, List.length_append]; omega) | (simp only [List.length_set, List.length_append, List.length_replicate, u32s_length, bys_length, *] <;> first | done | omega) | rfl))) ?_) | (refine qv_v (q_load 1 Try.underlying56 rfl rfl rfl rfl) ?_)
        refine qv_v (q_move rfl) ?_
        first | (refine qv_v (q_idxA Try.underlying81 sz56 rfl rfl (by omega) (r := _) (by rw [Nat.mul_one, Nat.zero_add])) ?_) | (refine qv_v (q_idxA Try.underlying81 sz56 rfl rfl (by omega) rfl) ?_)
        first | (refine qv_v (q_load 0 Try.underlying56 rfl rfl rfl (u32s_at (by first | omega | with_reducible assumption | (simp only [u32s_length, bys_length, i64s_length, List.length_append]; omega) | (simp only [List.length_set, List.length_append, List.length_replicate, u32s_length, bys_length, *] <;> first | done | omega) | rfl))) ?_) | (refine qv_v (q_load 0 Try.underlying56 rfl rfl rfl rfl) ?_)
        refine qv_v (q_move rfl) ?_
        first | (refine qv_v (q_add_n (q := 8) rfl rfl (by omega)) ?_) | (refine qv_v (q_add_i rfl rfl (by omega) (by omega)) ?_)
        first | (refine qv_v (q_idxA Try.underlying81 sz56 rfl rfl (by omega) (r := _) (by rw [Nat.mul_one, Nat.zero_add])) ?_) | (refine qv_v (q_idxA Try.underlying81 sz56 rfl rfl (by omega) rfl) ?_)
        first | (refine qv_v (q_load 0 Try.underlying56 rfl rfl rfl (u32s_at (by first | omega | with_reducible assumption | (simp only [u32s_length, bys_length, i64s_length, List.length_append]; omega) | (simp only [List.length_set, List.length_append, List.length_replicate, u32s_length, bys_length, *] <;> first | done | omega) | rfl))) ?_) | (refine qv_v (q_load 0 Try.underlying56 rfl rfl rfl rfl) ?_)
        refine qv_v (q_xor_u32 rfl rfl) ?_
        refine qv_v (q_xor_u32 rfl rfl) ?_
        refine qv_v (q_nilck rfl) ?_
        refine qv_end ?_
        refine VL.keep (Sub.cons (s := 0) rfl (Sub.cons (s := 8) rfl (Sub.cons (s := 133) rfl (Sub.cons (s := 134) rfl (Sub.cons (s := 16) rfl (Sub.cons (s := 137) rfl (Sub.cons (s := 149) rfl (Sub.cons (s := 150) rfl (Sub.nil _))))))))) ?_
        first | (refine vl_v (q_idxA Try.underlying58 sz56 rfl rfl (by omega) (r := _) (by rw [Nat.mul_one, Nat.zero_add])) rfl ?_) | (refine vl_v (q_idxA Try.underlying58 sz56 rfl rfl (by omega) rfl) rfl ?_)
        first | (refine l_stU32 1 rfl rfl rfl sz56 (by first | omega | with_reducible assumption | (simp only [u32s_length, bys_length, i64s_length, List.length_append]; omega) | (simp only [List.length_set, List.length_append, List.length_replicate, u32s_length, bys_length, *] <;> first | done | omega) | rfl) ?_) | (refine l_store1 1 rfl rfl rfl sz56 rfl (by first | decide | simp) ?_)
        simp only [List.set_cons_zero, List.set_cons_succ]
        refine vl_nil ?_
        refine (qn_n (bl_n (th_n ?_)))
        refine VC_region ?_
        first | (refine vl_v (q_add_n (q := 1) rfl rfl (by omega)) rfl ?_) | (refine vl_v (q_add_i rfl rfl (by omega) (by omega)) rfl ?_)
        refine vl_v (q_move rfl) rfl ?_
        refine vl_nil ?_
        refine (th_n ?_)
        refine ⟨z + 1, by omega, by omega, (Sub.cons (s := 0) rfl (Sub.cons (s := 8) rfl (Sub.cons (s := 133) rfl (Sub.nil _)))), fun w H => H⟩
      · skip
        have ht134 := of_decide_eq_false ht134
        obtain rfl : z = 8 := by omega
        refine VC_exit ?_
        refine (th_x (th_x (bl_xs ?_)))
        refine ⟨_, res0 rfl, ?_⟩
        exact ⟨rfl, [_], by rw [into, ← hve, ← hme]; rfl⟩
end Go.Proofs.Ytkadnmoephkklaa
