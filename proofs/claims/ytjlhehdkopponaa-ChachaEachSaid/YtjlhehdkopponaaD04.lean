/- What the reference's functions of chapter 4 do. No condition. -/
import Derived.Test.YtjlhehdkopponaaC04d
import Derived.Test.YtjlhehdkopponaaR01
namespace Go.Proofs.Ytjlhehdkopponaa
open Go.RowKit Go.PBYtjlhehdkopponaa
set_option linter.unusedVariables false
set_option linter.unusedSimpArgs false
set_option maxRecDepth 10000

theorem left_calls (x : UInt32) (m : Nat) (h : m ≤ 32) (w : World) :
    Calls Try.prog 21 #[vU32 x, vN m] w fun e w' => e = .returned (vU32 (rotl x m)) ∧ Kept [] w w' := by
  refine enter (n := 13) (R := fun e L => e = .returned (vU32 (rotl x m))) [vU32 x, vN m] Try.func21 rfl rfl rfl (St.refl w) ?_ (fun e w' L' h H => ⟨h, H.kept⟩)
  refine VC_seq ?_
  refine VC_region ?_
  refine vl_v (q_assign rfl) rfl ?_
  refine vl_nil ?_
  refine (th_n ?_)
  refine VC_seq ?_
  refine VC_drawV 7 [[], [], [0, 1], [], [], [4], [3, 5], [2, 6], [7, 0, 1, 2, 3, 4, 5, 6]] [[], [], [0, 1], [], [], [4], [3, 4, 5], [0, 1, 2, 3, 4, 5, 6], [0, 1, 2, 3, 4, 5, 6, 7]] rfl (by kernel_rfl) ?_
  refine qv_v (q_move rfl) ?_
  refine qv_v (q_move rfl) ?_
  refine qv_v (q_shl_u32 rfl rfl) ?_
  refine qv_v (q_move rfl) ?_
  refine qv_v (q_move rfl) ?_
  first | (refine qv_v (q_sub_n (p := 32) rfl rfl (by omega) (by omega)) ?_) | (refine qv_v (q_sub_i rfl rfl (by omega) (by omega)) ?_)
  refine qv_v (q_shr_u32 rfl rfl) ?_
  refine qv_end ?_
  refine VL.keep (Sub.cons (s := 0) rfl (Sub.cons (s := 1) rfl (Sub.cons (s := 4) rfl (Sub.cons (s := 7) rfl (Sub.cons (s := 11) rfl (Sub.nil _)))))) ?_
  refine vl_v (q_or_u32 rfl rfl) rfl ?_
  refine vl_v (q_assign rfl) rfl ?_
  refine vl_nil ?_
  refine (qn_n (th_n ?_))
  refine VC_ret ?_
  refine ⟨_, res1 rfl rfl, ?_⟩
  exact rfl

set_option maxHeartbeats 1000000 in
theorem rquarter_calls {S : List Nat} {w0 : World} {R : List Res} {more : List Value} (l : List UInt32) (i1 i2 i3 i4 : Nat) (bl cap : Nat) (hl : l.length = 16) (h1 : i1 < 16) (h2 : i2 < 16) (h3 : i3 < 16) (h4 : i4 < 16) (w : World) (H : St S w0 (.blk bl 25 (u32s l ++ more) :: R) w) :
    Calls Try.prog 17 #[.slice (some ⟨bl, 0, none⟩) 16 cap, vN i1, vN i2, vN i3, vN i4] w fun e w' => e = .returned (.tuple #[]) ∧ St S w0 (.blk bl 25 (u32s (quarter l i1 i2 i3 i4) ++ more) :: R) w' := by
  refine enter (n := 110) (R := fun e L => e = .returned (.tuple #[]) ∧ L = .blk bl 25 (u32s (quarter l i1 i2 i3 i4) ++ more) :: R) [.slice (some ⟨bl, 0, none⟩) 16 cap, vN i1, vN i2, vN i3, vN i4] Try.func17 rfl rfl rfl H ?_ (fun e w' L' h H => ⟨h.1, h.2 ▸ H⟩)
  refine VC_seq ?_
  refine VC_drawV 11 [[], [], [], [], [2, 3], [4], [], [], [6, 7], [8], [5, 9], [0, 1, 2, 3, 4, 5, 6, 7, 8, 9, 10], [11, 10, 0, 1, 2, 3, 4, 5, 6, 7, 8, 9]] [[], [], [], [], [2, 3], [2, 3, 4], [], [], [6, 7], [6, 7, 8], [2, 3, 4, 5, 6, 7, 8, 9], [0, 1, 2, 3, 4, 5, 6, 7, 8, 9, 10], [0, 1, 2, 3, 4, 5, 6, 7, 8, 9, 10, 11]] rfl (by kernel_rfl) ?_
  refine qv_v (q_move rfl) ?_
  refine qv_v (q_move rfl) ?_
  refine qv_v (q_move rfl) ?_
  refine qv_v (q_move rfl) ?_
  refine qv_v (q_idxS0 Try.underlying43 sz25 rfl rfl (by omega) (by rw [Nat.mul_one, Nat.zero_add])) ?_
  first | (refine qv_v (q_load 0 Try.underlying25 rfl rfl rfl (u32s_atA (by first | omega | with_reducible assumption | (simp only [List.length_set, List.length_replicate, List.length_map, List.length_append, bys_length, u32s_length, u64s_length, i64s_length, List.length_take, List.length_drop, List.length_cons, List.length_nil, *] <;> first | done | omega) | rfl))) ?_) | (refine qv_v (q_load 0 Try.underlying25 rfl rfl rfl rfl) ?_)
  refine qv_v (q_move rfl) ?_
  refine qv_v (q_move rfl) ?_
  refine qv_v (q_idxS0 Try.underlying43 sz25 rfl rfl (by omega) (by rw [Nat.mul_one, Nat.zero_add])) ?_
  first | (refine qv_v (q_load 0 Try.underlying25 rfl rfl rfl (u32s_atA (by first | omega | with_reducible assumption | (simp only [List.length_set, List.length_replicate, List.length_map, List.length_append, bys_length, u32s_length, u64s_length, i64s_length, List.length_take, List.length_drop, List.length_cons, List.length_nil, *] <;> first | done | omega) | rfl))) ?_) | (refine qv_v (q_load 0 Try.underlying25 rfl rfl rfl rfl) ?_)
  refine qv_v (q_add_u32 rfl rfl) ?_
  refine qv_end ?_
  refine VL.keep (Sub.cons (s := 0) rfl (Sub.cons (s := 1) rfl (Sub.cons (s := 2) rfl (Sub.cons (s := 3) rfl (Sub.cons (s := 4) rfl (Sub.cons (s := 10) rfl (Sub.cons (s := 11) rfl (Sub.cons (s := 20) rfl (Sub.nil _))))))))) ?_
  refine vl_v (q_idxS0 Try.underlying43 sz25 rfl rfl (by omega) (by rw [Nat.mul_one, Nat.zero_add])) rfl ?_
  first | (refine l_stU32A 0 rfl rfl rfl sz25 (by first | omega | with_reducible assumption | (simp only [List.length_set, List.length_replicate, List.length_map, List.length_append, bys_length, u32s_length, u64s_length, i64s_length, List.length_take, List.length_drop, List.length_cons, List.length_nil, *] <;> first | done | omega) | rfl) ?_) | (refine l_store1 0 rfl rfl rfl sz25 rfl (by decide) ?_)
  simp only [List.set_cons_zero, List.set_cons_succ]
  refine vl_nil ?_
  refine (qn_n (th_n ?_))
  refine VC_seq ?_
  refine VC_drawV 12 [[], [], [], [], [2, 3], [4], [], [], [6, 7], [8], [5, 9], [10], [0, 1, 2, 3, 4, 5, 6, 7, 8, 9, 10, 11], [12, 11, 0, 1, 2, 3, 4, 5, 6, 7, 8, 9, 10]] [[], [], [], [], [2, 3], [2, 3, 4], [], [], [6, 7], [6, 7, 8], [2, 3, 4, 5, 6, 7, 8, 9], [2, 3, 4, 5, 6, 7, 8, 9, 10], [0, 1, 2, 3, 4, 5, 6, 7, 8, 9, 10, 11], [0, 1, 2, 3, 4, 5, 6, 7, 8, 9, 10, 11, 12]] rfl (by kernel_rfl) ?_
  refine qv_v (q_move rfl) ?_
  refine qv_v (q_move rfl) ?_
  refine qv_v (q_move rfl) ?_
  refine qv_v (q_move rfl) ?_
  refine qv_v (q_idxS0 Try.underlying43 sz25 rfl rfl (by omega) (by rw [Nat.mul_one, Nat.zero_add])) ?_
  first | (refine qv_v (q_load 0 Try.underlying25 rfl rfl rfl (u32s_atA (by first | omega | with_reducible assumption | (simp only [List.length_set, List.length_replicate, List.length_map, List.length_append, bys_length, u32s_length, u64s_length, i64s_length, List.length_take, List.length_drop, List.length_cons, List.length_nil, *] <;> first | done | omega) | rfl))) ?_) | (refine qv_v (q_load 0 Try.underlying25 rfl rfl rfl rfl) ?_)
  refine qv_v (q_move rfl) ?_
  refine qv_v (q_move rfl) ?_
  refine qv_v (q_idxS0 Try.underlying43 sz25 rfl rfl (by omega) (by rw [Nat.mul_one, Nat.zero_add])) ?_
  first | (refine qv_v (q_load 0 Try.underlying25 rfl rfl rfl (u32s_atA (by first | omega | with_reducible assumption | (simp only [List.length_set, List.length_replicate, List.length_map, List.length_append, bys_length, u32s_length, u64s_length, i64s_length, List.length_take, List.length_drop, List.length_cons, List.length_nil, *] <;> first | done | omega) | rfl))) ?_) | (refine qv_v (q_load 0 Try.underlying25 rfl rfl rfl rfl) ?_)
  refine qv_v (q_xor_u32 rfl rfl) ?_
  refine qv_v (q_callV Try.func21 rfl rfl rfl (fun w1 H1 => left_calls _ 16 (by omega) w1)) ?_
  refine qv_end ?_
  refine VL.keep (Sub.cons (s := 0) rfl (Sub.cons (s := 1) rfl (Sub.cons (s := 2) rfl (Sub.cons (s := 3) rfl (Sub.cons (s := 4) rfl (Sub.cons (s := 22) rfl (Sub.cons (s := 23) rfl (Sub.cons (s := 33) rfl (Sub.nil _))))))))) ?_
  refine vl_v (q_idxS0 Try.underlying43 sz25 rfl rfl (by omega) (by rw [Nat.mul_one, Nat.zero_add])) rfl ?_
  first | (refine l_stU32A 0 rfl rfl rfl sz25 (by first | omega | with_reducible assumption | (simp only [List.length_set, List.length_replicate, List.length_map, List.length_append, bys_length, u32s_length, u64s_length, i64s_length, List.length_take, List.length_drop, List.length_cons, List.length_nil, *] <;> first | done | omega) | rfl) ?_) | (refine l_store1 0 rfl rfl rfl sz25 rfl (by decide) ?_)
  simp only [List.set_cons_zero, List.set_cons_succ]
  refine vl_nil ?_
  refine (qn_n (th_n ?_))
  refine VC_seq ?_
  refine VC_drawV 11 [[], [], [], [], [2, 3], [4], [], [], [6, 7], [8], [5, 9], [0, 1, 2, 3, 4, 5, 6, 7, 8, 9, 10], [11, 10, 0, 1, 2, 3, 4, 5, 6, 7, 8, 9]] [[], [], [], [], [2, 3], [2, 3, 4], [], [], [6, 7], [6, 7, 8], [2, 3, 4, 5, 6, 7, 8, 9], [0, 1, 2, 3, 4, 5, 6, 7, 8, 9, 10], [0, 1, 2, 3, 4, 5, 6, 7, 8, 9, 10, 11]] rfl (by kernel_rfl) ?_
  refine qv_v (q_move rfl) ?_
  refine qv_v (q_move rfl) ?_
  refine qv_v (q_move rfl) ?_
  refine qv_v (q_move rfl) ?_
  refine qv_v (q_idxS0 Try.underlying43 sz25 rfl rfl (by omega) (by rw [Nat.mul_one, Nat.zero_add])) ?_
  first | (refine qv_v (q_load 0 Try.underlying25 rfl rfl rfl (u32s_atA (by first | omega | with_reducible assumption | (simp only [List.length_set, List.length_replicate, List.length_map, List.length_append, bys_length, u32s_length, u64s_length, i64s_length, List.length_take, List.length_drop, List.length_cons, List.length_nil, *] <;> first | done | omega) | rfl))) ?_) | (refine qv_v (q_load 0 Try.underlying25 rfl rfl rfl rfl) ?_)
  refine qv_v (q_move rfl) ?_
  refine qv_v (q_move rfl) ?_
  refine qv_v (q_idxS0 Try.underlying43 sz25 rfl rfl (by omega) (by rw [Nat.mul_one, Nat.zero_add])) ?_
  first | (refine qv_v (q_load 0 Try.underlying25 rfl rfl rfl (u32s_atA (by first | omega | with_reducible assumption | (simp only [List.length_set, List.length_replicate, List.length_map, List.length_append, bys_length, u32s_length, u64s_length, i64s_length, List.length_take, List.length_drop, List.length_cons, List.length_nil, *] <;> first | done | omega) | rfl))) ?_) | (refine qv_v (q_load 0 Try.underlying25 rfl rfl rfl rfl) ?_)
  refine qv_v (q_add_u32 rfl rfl) ?_
  refine qv_end ?_
  refine VL.keep (Sub.cons (s := 0) rfl (Sub.cons (s := 1) rfl (Sub.cons (s := 2) rfl (Sub.cons (s := 3) rfl (Sub.cons (s := 4) rfl (Sub.cons (s := 35) rfl (Sub.cons (s := 36) rfl (Sub.cons (s := 45) rfl (Sub.nil _))))))))) ?_
  refine vl_v (q_idxS0 Try.underlying43 sz25 rfl rfl (by omega) (by rw [Nat.mul_one, Nat.zero_add])) rfl ?_
  first | (refine l_stU32A 0 rfl rfl rfl sz25 (by first | omega | with_reducible assumption | (simp only [List.length_set, List.length_replicate, List.length_map, List.length_append, bys_length, u32s_length, u64s_length, i64s_length, List.length_take, List.length_drop, List.length_cons, List.length_nil, *] <;> first | done | omega) | rfl) ?_) | (refine l_store1 0 rfl rfl rfl sz25 rfl (by decide) ?_)
  simp only [List.set_cons_zero, List.set_cons_succ]
  refine vl_nil ?_
  refine (qn_n (th_n ?_))
  refine VC_seq ?_
  refine VC_drawV 12 [[], [], [], [], [2, 3], [4], [], [], [6, 7], [8], [5, 9], [10], [0, 1, 2, 3, 4, 5, 6, 7, 8, 9, 10, 11], [12, 11, 0, 1, 2, 3, 4, 5, 6, 7, 8, 9, 10]] [[], [], [], [], [2, 3], [2, 3, 4], [], [], [6, 7], [6, 7, 8], [2, 3, 4, 5, 6, 7, 8, 9], [2, 3, 4, 5, 6, 7, 8, 9, 10], [0, 1, 2, 3, 4, 5, 6, 7, 8, 9, 10, 11], [0, 1, 2, 3, 4, 5, 6, 7, 8, 9, 10, 11, 12]] rfl (by kernel_rfl) ?_
  refine qv_v (q_move rfl) ?_
  refine qv_v (q_move rfl) ?_
  refine qv_v (q_move rfl) ?_
  refine qv_v (q_move rfl) ?_
  refine qv_v (q_idxS0 Try.underlying43 sz25 rfl rfl (by omega) (by rw [Nat.mul_one, Nat.zero_add])) ?_
  first | (refine qv_v (q_load 0 Try.underlying25 rfl rfl rfl (u32s_atA (by first | omega | with_reducible assumption | (simp only [List.length_set, List.length_replicate, List.length_map, List.length_append, bys_length, u32s_length, u64s_length, i64s_length, List.length_take, List.length_drop, List.length_cons, List.length_nil, *] <;> first | done | omega) | rfl))) ?_) | (refine qv_v (q_load 0 Try.underlying25 rfl rfl rfl rfl) ?_)
  refine qv_v (q_move rfl) ?_
  refine qv_v (q_move rfl) ?_
  refine qv_v (q_idxS0 Try.underlying43 sz25 rfl rfl (by omega) (by rw [Nat.mul_one, Nat.zero_add])) ?_
  first | (refine qv_v (q_load 0 Try.underlying25 rfl rfl rfl (u32s_atA (by first | omega | with_reducible assumption | (simp only [List.length_set, List.length_replicate, List.length_map, List.length_append, bys_length, u32s_length, u64s_length, i64s_length, List.length_take, List.length_drop, List.length_cons, List.length_nil, *] <;> first | done | omega) | rfl))) ?_) | (refine qv_v (q_load 0 Try.underlying25 rfl rfl rfl rfl) ?_)
  refine qv_v (q_xor_u32 rfl rfl) ?_
  refine qv_v (q_callV Try.func21 rfl rfl rfl (fun w1 H1 => left_calls _ 12 (by omega) w1)) ?_
  refine qv_end ?_
  refine VL.keep (Sub.cons (s := 0) rfl (Sub.cons (s := 1) rfl (Sub.cons (s := 2) rfl (Sub.cons (s := 3) rfl (Sub.cons (s := 4) rfl (Sub.cons (s := 47) rfl (Sub.cons (s := 48) rfl (Sub.cons (s := 58) rfl (Sub.nil _))))))))) ?_
  refine vl_v (q_idxS0 Try.underlying43 sz25 rfl rfl (by omega) (by rw [Nat.mul_one, Nat.zero_add])) rfl ?_
  first | (refine l_stU32A 0 rfl rfl rfl sz25 (by first | omega | with_reducible assumption | (simp only [List.length_set, List.length_replicate, List.length_map, List.length_append, bys_length, u32s_length, u64s_length, i64s_length, List.length_take, List.length_drop, List.length_cons, List.length_nil, *] <;> first | done | omega) | rfl) ?_) | (refine l_store1 0 rfl rfl rfl sz25 rfl (by decide) ?_)
  simp only [List.set_cons_zero, List.set_cons_succ]
  refine vl_nil ?_
  refine (qn_n (th_n ?_))
  refine VC_seq ?_
  refine VC_drawV 11 [[], [], [], [], [2, 3], [4], [], [], [6, 7], [8], [5, 9], [0, 1, 2, 3, 4, 5, 6, 7, 8, 9, 10], [11, 10, 0, 1, 2, 3, 4, 5, 6, 7, 8, 9]] [[], [], [], [], [2, 3], [2, 3, 4], [], [], [6, 7], [6, 7, 8], [2, 3, 4, 5, 6, 7, 8, 9], [0, 1, 2, 3, 4, 5, 6, 7, 8, 9, 10], [0, 1, 2, 3, 4, 5, 6, 7, 8, 9, 10, 11]] rfl (by kernel_rfl) ?_
  refine qv_v (q_move rfl) ?_
  refine qv_v (q_move rfl) ?_
  refine qv_v (q_move rfl) ?_
  refine qv_v (q_move rfl) ?_
  refine qv_v (q_idxS0 Try.underlying43 sz25 rfl rfl (by omega) (by rw [Nat.mul_one, Nat.zero_add])) ?_
  first | (refine qv_v (q_load 0 Try.underlying25 rfl rfl rfl (u32s_atA (by first | omega | with_reducible assumption | (simp only [List.length_set, List.length_replicate, List.length_map, List.length_append, bys_length, u32s_length, u64s_length, i64s_length, List.length_take, List.length_drop, List.length_cons, List.length_nil, *] <;> first | done | omega) | rfl))) ?_) | (refine qv_v (q_load 0 Try.underlying25 rfl rfl rfl rfl) ?_)
  refine qv_v (q_move rfl) ?_
  refine qv_v (q_move rfl) ?_
  refine qv_v (q_idxS0 Try.underlying43 sz25 rfl rfl (by omega) (by rw [Nat.mul_one, Nat.zero_add])) ?_
  first | (refine qv_v (q_load 0 Try.underlying25 rfl rfl rfl (u32s_atA (by first | omega | with_reducible assumption | (simp only [List.length_set, List.length_replicate, List.length_map, List.length_append, bys_length, u32s_length, u64s_length, i64s_length, List.length_take, List.length_drop, List.length_cons, List.length_nil, *] <;> first | done | omega) | rfl))) ?_) | (refine qv_v (q_load 0 Try.underlying25 rfl rfl rfl rfl) ?_)
  refine qv_v (q_add_u32 rfl rfl) ?_
  refine qv_end ?_
  refine VL.keep (Sub.cons (s := 0) rfl (Sub.cons (s := 1) rfl (Sub.cons (s := 2) rfl (Sub.cons (s := 3) rfl (Sub.cons (s := 4) rfl (Sub.cons (s := 60) rfl (Sub.cons (s := 61) rfl (Sub.cons (s := 70) rfl (Sub.nil _))))))))) ?_
  refine vl_v (q_idxS0 Try.underlying43 sz25 rfl rfl (by omega) (by rw [Nat.mul_one, Nat.zero_add])) rfl ?_
  first | (refine l_stU32A 0 rfl rfl rfl sz25 (by first | omega | with_reducible assumption | (simp only [List.length_set, List.length_replicate, List.length_map, List.length_append, bys_length, u32s_length, u64s_length, i64s_length, List.length_take, List.length_drop, List.length_cons, List.length_nil, *] <;> first | done | omega) | rfl) ?_) | (refine l_store1 0 rfl rfl rfl sz25 rfl (by decide) ?_)
  simp only [List.set_cons_zero, List.set_cons_succ]
  refine vl_nil ?_
  refine (qn_n (th_n ?_))
  refine VC_seq ?_
  refine VC_drawV 12 [[], [], [], [], [2, 3], [4], [], [], [6, 7], [8], [5, 9], [10], [0, 1, 2, 3, 4, 5, 6, 7, 8, 9, 10, 11], [12, 11, 0, 1, 2, 3, 4, 5, 6, 7, 8, 9, 10]] [[], [], [], [], [2, 3], [2, 3, 4], [], [], [6, 7], [6, 7, 8], [2, 3, 4, 5, 6, 7, 8, 9], [2, 3, 4, 5, 6, 7, 8, 9, 10], [0, 1, 2, 3, 4, 5, 6, 7, 8, 9, 10, 11], [0, 1, 2, 3, 4, 5, 6, 7, 8, 9, 10, 11, 12]] rfl (by kernel_rfl) ?_
  refine qv_v (q_move rfl) ?_
  refine qv_v (q_move rfl) ?_
  refine qv_v (q_move rfl) ?_
  refine qv_v (q_move rfl) ?_
  refine qv_v (q_idxS0 Try.underlying43 sz25 rfl rfl (by omega) (by rw [Nat.mul_one, Nat.zero_add])) ?_
  first | (refine qv_v (q_load 0 Try.underlying25 rfl rfl rfl (u32s_atA (by first | omega | with_reducible assumption | (simp only [List.length_set, List.length_replicate, List.length_map, List.length_append, bys_length, u32s_length, u64s_length, i64s_length, List.length_take, List.length_drop, List.length_cons, List.length_nil, *] <;> first | done | omega) | rfl))) ?_) | (refine qv_v (q_load 0 Try.underlying25 rfl rfl rfl rfl) ?_)
  refine qv_v (q_move rfl) ?_
  refine qv_v (q_move rfl) ?_
  refine qv_v (q_idxS0 Try.underlying43 sz25 rfl rfl (by omega) (by rw [Nat.mul_one, Nat.zero_add])) ?_
  first | (refine qv_v (q_load 0 Try.underlying25 rfl rfl rfl (u32s_atA (by first | omega | with_reducible assumption | (simp only [List.length_set, List.length_replicate, List.length_map, List.length_append, bys_length, u32s_length, u64s_length, i64s_length, List.length_take, List.length_drop, List.length_cons, List.length_nil, *] <;> first | done | omega) | rfl))) ?_) | (refine qv_v (q_load 0 Try.underlying25 rfl rfl rfl rfl) ?_)
  refine qv_v (q_xor_u32 rfl rfl) ?_
  refine qv_v (q_callV Try.func21 rfl rfl rfl (fun w1 H1 => left_calls _ 8 (by omega) w1)) ?_
  refine qv_end ?_
  refine VL.keep (Sub.cons (s := 0) rfl (Sub.cons (s := 1) rfl (Sub.cons (s := 2) rfl (Sub.cons (s := 3) rfl (Sub.cons (s := 4) rfl (Sub.cons (s := 72) rfl (Sub.cons (s := 73) rfl (Sub.cons (s := 83) rfl (Sub.nil _))))))))) ?_
  refine vl_v (q_idxS0 Try.underlying43 sz25 rfl rfl (by omega) (by rw [Nat.mul_one, Nat.zero_add])) rfl ?_
  first | (refine l_stU32A 0 rfl rfl rfl sz25 (by first | omega | with_reducible assumption | (simp only [List.length_set, List.length_replicate, List.length_map, List.length_append, bys_length, u32s_length, u64s_length, i64s_length, List.length_take, List.length_drop, List.length_cons, List.length_nil, *] <;> first | done | omega) | rfl) ?_) | (refine l_store1 0 rfl rfl rfl sz25 rfl (by decide) ?_)
  simp only [List.set_cons_zero, List.set_cons_succ]
  refine vl_nil ?_
  refine (qn_n (th_n ?_))
  refine VC_seq ?_
  refine VC_drawV 11 [[], [], [], [], [2, 3], [4], [], [], [6, 7], [8], [5, 9], [0, 1, 2, 3, 4, 5, 6, 7, 8, 9, 10], [11, 10, 0, 1, 2, 3, 4, 5, 6, 7, 8, 9]] [[], [], [], [], [2, 3], [2, 3, 4], [], [], [6, 7], [6, 7, 8], [2, 3, 4, 5, 6, 7, 8, 9], [0, 1, 2, 3, 4, 5, 6, 7, 8, 9, 10], [0, 1, 2, 3, 4, 5, 6, 7, 8, 9, 10, 11]] rfl (by kernel_rfl) ?_
  refine qv_v (q_move rfl) ?_
  refine qv_v (q_move rfl) ?_
  refine qv_v (q_move rfl) ?_
  refine qv_v (q_move rfl) ?_
  refine qv_v (q_idxS0 Try.underlying43 sz25 rfl rfl (by omega) (by rw [Nat.mul_one, Nat.zero_add])) ?_
  first | (refine qv_v (q_load 0 Try.underlying25 rfl rfl rfl (u32s_atA (by first | omega | with_reducible assumption | (simp only [List.length_set, List.length_replicate, List.length_map, List.length_append, bys_length, u32s_length, u64s_length, i64s_length, List.length_take, List.length_drop, List.length_cons, List.length_nil, *] <;> first | done | omega) | rfl))) ?_) | (refine qv_v (q_load 0 Try.underlying25 rfl rfl rfl rfl) ?_)
  refine qv_v (q_move rfl) ?_
  refine qv_v (q_move rfl) ?_
  refine qv_v (q_idxS0 Try.underlying43 sz25 rfl rfl (by omega) (by rw [Nat.mul_one, Nat.zero_add])) ?_
  first | (refine qv_v (q_load 0 Try.underlying25 rfl rfl rfl (u32s_atA (by first | omega | with_reducible assumption | (simp only [List.length_set, List.length_replicate, List.length_map, List.length_append, bys_length, u32s_length, u64s_length, i64s_length, List.length_take, List.length_drop, List.length_cons, List.length_nil, *] <;> first | done | omega) | rfl))) ?_) | (refine qv_v (q_load 0 Try.underlying25 rfl rfl rfl rfl) ?_)
  refine qv_v (q_add_u32 rfl rfl) ?_
  refine qv_end ?_
  refine VL.keep (Sub.cons (s := 0) rfl (Sub.cons (s := 1) rfl (Sub.cons (s := 2) rfl (Sub.cons (s := 3) rfl (Sub.cons (s := 4) rfl (Sub.cons (s := 85) rfl (Sub.cons (s := 86) rfl (Sub.cons (s := 95) rfl (Sub.nil _))))))))) ?_
  refine vl_v (q_idxS0 Try.underlying43 sz25 rfl rfl (by omega) (by rw [Nat.mul_one, Nat.zero_add])) rfl ?_
  first | (refine l_stU32A 0 rfl rfl rfl sz25 (by first | omega | with_reducible assumption | (simp only [List.length_set, List.length_replicate, List.length_map, List.length_append, bys_length, u32s_length, u64s_length, i64s_length, List.length_take, List.length_drop, List.length_cons, List.length_nil, *] <;> first | done | omega) | rfl) ?_) | (refine l_store1 0 rfl rfl rfl sz25 rfl (by decide) ?_)
  simp only [List.set_cons_zero, List.set_cons_succ]
  refine vl_nil ?_
  refine (qn_n (th_n ?_))
  refine VC_drawV 12 [[], [], [], [], [2, 3], [4], [], [], [6, 7], [8], [5, 9], [10], [0, 1, 2, 3, 4, 5, 6, 7, 8, 9, 10, 11], [12, 11, 0, 1, 2, 3, 4, 5, 6, 7, 8, 9, 10]] [[], [], [], [], [2, 3], [2, 3, 4], [], [], [6, 7], [6, 7, 8], [2, 3, 4, 5, 6, 7, 8, 9], [2, 3, 4, 5, 6, 7, 8, 9, 10], [0, 1, 2, 3, 4, 5, 6, 7, 8, 9, 10, 11], [0, 1, 2, 3, 4, 5, 6, 7, 8, 9, 10, 11, 12]] rfl (by kernel_rfl) ?_
  refine qv_v (q_move rfl) ?_
  refine qv_v (q_move rfl) ?_
  refine qv_v (q_move rfl) ?_
  refine qv_v (q_move rfl) ?_
  refine qv_v (q_idxS0 Try.underlying43 sz25 rfl rfl (by omega) (by rw [Nat.mul_one, Nat.zero_add])) ?_
  first | (refine qv_v (q_load 0 Try.underlying25 rfl rfl rfl (u32s_atA (by first | omega | with_reducible assumption | (simp only [List.length_set, List.length_replicate, List.length_map, List.length_append, bys_length, u32s_length, u64s_length, i64s_length, List.length_take, List.length_drop, List.length_cons, List.length_nil, *] <;> first | done | omega) | rfl))) ?_) | (refine qv_v (q_load 0 Try.underlying25 rfl rfl rfl rfl) ?_)
  refine qv_v (q_move rfl) ?_
  refine qv_v (q_move rfl) ?_
  refine qv_v (q_idxS0 Try.underlying43 sz25 rfl rfl (by omega) (by rw [Nat.mul_one, Nat.zero_add])) ?_
  first | (refine qv_v (q_load 0 Try.underlying25 rfl rfl rfl (u32s_atA (by first | omega | with_reducible assumption | (simp only [List.length_set, List.length_replicate, List.length_map, List.length_append, bys_length, u32s_length, u64s_length, i64s_length, List.length_take, List.length_drop, List.length_cons, List.length_nil, *] <;> first | done | omega) | rfl))) ?_) | (refine qv_v (q_load 0 Try.underlying25 rfl rfl rfl rfl) ?_)
  refine qv_v (q_xor_u32 rfl rfl) ?_
  refine qv_v (q_callV Try.func21 rfl rfl rfl (fun w1 H1 => left_calls _ 7 (by omega) w1)) ?_
  refine qv_end ?_
  refine VL.keep (Sub.cons (s := 0) rfl (Sub.cons (s := 1) rfl (Sub.cons (s := 2) rfl (Sub.cons (s := 3) rfl (Sub.cons (s := 4) rfl (Sub.cons (s := 97) rfl (Sub.cons (s := 98) rfl (Sub.cons (s := 108) rfl (Sub.nil _))))))))) ?_
  refine vl_v (q_idxS0 Try.underlying43 sz25 rfl rfl (by omega) (by rw [Nat.mul_one, Nat.zero_add])) rfl ?_
  first | (refine l_stU32A 0 rfl rfl rfl sz25 (by first | omega | with_reducible assumption | (simp only [List.length_set, List.length_replicate, List.length_map, List.length_append, bys_length, u32s_length, u64s_length, i64s_length, List.length_take, List.length_drop, List.length_cons, List.length_nil, *] <;> first | done | omega) | rfl) ?_) | (refine l_store1 0 rfl rfl rfl sz25 rfl (by decide) ?_)
  simp only [List.set_cons_zero, List.set_cons_succ]
  refine vl_nil ?_
  refine (qn_n ?_)
  refine ⟨_, res0 rfl, ?_⟩
  exact ⟨rfl, rfl⟩
end Go.Proofs.Ytjlhehdkopponaa
