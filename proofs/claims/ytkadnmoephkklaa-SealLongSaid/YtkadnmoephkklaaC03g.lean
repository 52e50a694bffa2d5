/- What the document's own functions of blake do: turning, mixing, the first words, a filled block. Conditions: lengths. -/
import Derived.Test.YtkadnmoephkklaaC03d
import Derived.Test.YtkadnmoephkklaaVZ
namespace Go.Proofs.Ytkadnmoephkklaa
open Go.RowKit Go.PBYtkadnmoephkklaa
set_option linter.unusedVariables false
set_option linter.unusedSimpArgs false
set_option maxRecDepth 10000

theorem rot_eq (x : UInt32) (n : Nat) (h : n ≤ 32) : UInt32.ofNat (x.toNat / 2 ^ (min n 32)) ||| UInt32.ofNat (x.toNat * 2 ^ (min (32 - n) 32)) = rotl x (32 - n) := by
  rw [UInt32.or_comm, rotl, show 32 - (32 - n) = n by omega]
theorem rturned_calls (x : UInt32) (n : Nat) (h : n ≤ 32) (w : World) :
    Calls Try.prog 77 #[vU32 x, vN n] w fun e w' => e = .returned (vU32 (rotl x (32 - n))) ∧ Kept [] w w' := by
  refine enter (n := 13) (R := fun e L => e = .returned (vU32 (rotl x (32 - n)))) [vU32 x, vN n] Try.func77 rfl rfl rfl (St.refl w) ?_ (fun e w' L' h H => ⟨h, H.kept⟩)
  refine VC_seq ?_
  refine VC_region ?_
  refine vl_v (q_assign rfl) rfl ?_
  refine vl_nil ?_
  refine (th_n ?_)
  refine VC_seq ?_
  refine VC_drawV 7 [[], [], [0, 1], [], [], [4], [3, 5], [2, 6], [7, 0, 1, 2, 3, 4, 5, 6]] [[], [], [0, 1], [], [], [4], [3, 4, 5], [0, 1, 2, 3, 4, 5, 6], [0, 1, 2, 3, 4, 5, 6, 7]] rfl (by kernel_rfl) ?_
  refine qv_v (q_move rfl) ?_
  refine qv_v (q_move rfl) ?_
  refine qv_v (q_shr_u32 rfl rfl) ?_
  refine qv_v (q_move rfl) ?_
  refine qv_v (q_move rfl) ?_
  first | (refine qv_v (q_sub_n (p := 32) rfl rfl (by omega) (by omega)) ?_) | (refine qv_v (q_sub_i rfl rfl (by omega) (by omega)) ?_)
  refine qv_v (q_shl_u32 rfl rfl) ?_
  refine qv_end ?_
  refine VL.keep (Sub.cons (s := 0) rfl (Sub.cons (s := 1) rfl (Sub.cons (s := 4) rfl (Sub.cons (s := 7) rfl (Sub.cons (s := 11) rfl (Sub.nil _)))))) ?_
  refine vl_v (q_as (v := vU32 (rotl x (32 - n))) (q_or_u32 rfl rfl) (by rw [rot_eq x n h])) rfl ?_
  refine vl_v (q_assign rfl) rfl ?_
  refine vl_nil ?_
  refine (qn_n (th_n ?_))
  refine VC_ret ?_
  refine ⟨_, res1 rfl rfl, ?_⟩
  exact rfl
set_option maxHeartbeats 2000000 in
theorem rmix_calls {S : List Nat} {w0 : World} {R : List Res} {T : TypeId} {more : List Value} (l : List UInt32) (ia ib ic id cap : Nat) (x y : UInt32) (bl : Nat) (hl : l.length = 16) (h1 : ia < 16) (h2 : ib < 16) (h3 : ic < 16) (h4 : id < 16) (w : World) (H : St S w0 (.blk bl T (u32s l ++ more) :: R) w) :
    Calls Try.prog 72 #[.slice (some ⟨bl, 0, none⟩) 16 cap, vN ia, vN ib, vN ic, vN id, vU32 x, vU32 y] w fun e w' => e = .returned (.tuple #[]) ∧ St S w0 (.blk bl T (u32s (mixL l ia ib ic id x y) ++ more) :: R) w' := by
  refine enter (n := 118) (R := fun e L => e = .returned (.tuple #[]) ∧ L = .blk bl T (u32s (mixL l ia ib ic id x y) ++ more) :: R) [.slice (some ⟨bl, 0, none⟩) 16 cap, vN ia, vN ib, vN ic, vN id, vU32 x, vU32 y] Try.func72 rfl rfl rfl H ?_ (fun e w' L' h H => ⟨h.1, h.2 ▸ H⟩)
  refine VC_seq ?_
  refine VC_drawV 13 [[], [], [], [], [2, 3], [4], [], [], [6, 7], [8], [5, 9], [], [10, 11], [0, 1, 2, 3, 4, 5, 6, 7, 8, 9, 10, 11, 12], [13, 12, 0, 1, 2, 3, 4, 5, 6, 7, 8, 9, 10, 11]] [[], [], [], [], [2, 3], [2, 3, 4], [], [], [6, 7], [6, 7, 8], [2, 3, 4, 5, 6, 7, 8, 9], [], [2, 3, 4, 5, 6, 7, 8, 9, 10, 11], [0, 1, 2, 3, 4, 5, 6, 7, 8, 9, 10, 11, 12], [0, 1, 2, 3, 4, 5, 6, 7, 8, 9, 10, 11, 12, 13]] rfl (by kernel_rfl) ?_
  refine qv_v (q_move rfl) ?_
  refine qv_v (q_move rfl) ?_
  refine qv_v (q_move rfl) ?_
  refine qv_v (q_move rfl) ?_
  refine qv_v (q_idxS0 Try.underlying82 sz56 rfl rfl (by omega) (by rw [Nat.mul_one, Nat.zero_add])) ?_
  first | (refine qv_v (q_load 0 Try.underlying56 rfl rfl rfl (u32s_atA (by first | omega | with_reducible assumption | (simp only [zb, zu, zw, zi, za]; omega) | (simp only [zs, zr, zm, za, zb, zu, zw, zi, zt, zd, zc, zn, *] <;> first | done | omega) | rfl))) ?_) | (refine qv_v (q_load 0 Try.underlying56 rfl rfl rfl rfl) ?_)
  refine qv_v (q_move rfl) ?_
  refine qv_v (q_move rfl) ?_
  refine qv_v (q_idxS0 Try.underlying82 sz56 rfl rfl (by omega) (by rw [Nat.mul_one, Nat.zero_add])) ?_
  first | (refine qv_v (q_load 0 Try.underlying56 rfl rfl rfl (u32s_atA (by first | omega | with_reducible assumption | (simp only [zb, zu, zw, zi, za]; omega) | (simp only [zs, zr, zm, za, zb, zu, zw, zi, zt, zd, zc, zn, *] <;> first | done | omega) | rfl))) ?_) | (refine qv_v (q_load 0 Try.underlying56 rfl rfl rfl rfl) ?_)
  refine qv_v (q_add_u32 rfl rfl) ?_
  refine qv_v (q_move rfl) ?_
  refine qv_v (q_add_u32 rfl rfl) ?_
  refine qv_end ?_
  refine VL.keep (Sub.cons (s := 0) rfl (Sub.cons (s := 1) rfl (Sub.cons (s := 2) rfl (Sub.cons (s := 3) rfl (Sub.cons (s := 4) rfl (Sub.cons (s := 5) rfl (Sub.cons (s := 6) rfl (Sub.cons (s := 14) rfl (Sub.cons (s := 15) rfl (Sub.cons (s := 26) rfl (Sub.nil _))))))))))) ?_
  refine vl_v (q_idxS0 Try.underlying82 sz56 rfl rfl (by omega) (by rw [Nat.mul_one, Nat.zero_add])) rfl ?_
  first | (refine l_stU32A 0 rfl rfl rfl sz56 (by first | omega | with_reducible assumption | (simp only [zb, zu, zw, zi, za]; omega) | (simp only [zs, zr, zm, za, zb, zu, zw, zi, zt, zd, zc, zn, *] <;> first | done | omega) | rfl) ?_) | (refine l_store1 0 rfl rfl rfl sz56 rfl (by first | decide | simp) ?_)
  simp only [List.set_cons_zero, List.set_cons_succ]
  refine vl_nil ?_
  refine (qn_n (th_n ?_))
  refine VC_seq ?_
  refine VC_drawV 12 [[], [], [], [], [2, 3], [4], [], [], [6, 7], [8], [5, 9], [10], [0, 1, 2, 3, 4, 5, 6, 7, 8, 9, 10, 11], [12, 11, 0, 1, 2, 3, 4, 5, 6, 7, 8, 9, 10]] [[], [], [], [], [2, 3], [2, 3, 4], [], [], [6, 7], [6, 7, 8], [2, 3, 4, 5, 6, 7, 8, 9], [2, 3, 4, 5, 6, 7, 8, 9, 10], [0, 1, 2, 3, 4, 5, 6, 7, 8, 9, 10, 11], [0, 1, 2, 3, 4, 5, 6, 7, 8, 9, 10, 11, 12]] rfl (by kernel_rfl) ?_
  refine qv_v (q_move rfl) ?_
  refine qv_v (q_move rfl) ?_
  refine qv_v (q_move rfl) ?_
  refine qv_v (q_move rfl) ?_
  refine qv_v (q_idxS0 Try.underlying82 sz56 rfl rfl (by omega) (by rw [Nat.mul_one, Nat.zero_add])) ?_
  first | (refine qv_v (q_load 0 Try.underlying56 rfl rfl rfl (u32s_atA (by first | omega | with_reducible assumption | (simp only [zb, zu, zw, zi, za]; omega) | (simp only [zs, zr, zm, za, zb, zu, zw, zi, zt, zd, zc, zn, *] <;> first | done | omega) | rfl))) ?_) | (refine qv_v (q_load 0 Try.underlying56 rfl rfl rfl rfl) ?_)
  refine qv_v (q_move rfl) ?_
  refine qv_v (q_move rfl) ?_
  refine qv_v (q_idxS0 Try.underlying82 sz56 rfl rfl (by omega) (by rw [Nat.mul_one, Nat.zero_add])) ?_
  first | (refine qv_v (q_load 0 Try.underlying56 rfl rfl rfl (u32s_atA (by first | omega | with_reducible assumption | (simp only [zb, zu, zw, zi, za]; omega) | (simp only [zs, zr, zm, za, zb, zu, zw, zi, zt, zd, zc, zn, *] <;> first | done | omega) | rfl))) ?_) | (refine qv_v (q_load 0 Try.underlying56 rfl rfl rfl rfl) ?_)
  refine qv_v (q_xor_u32 rfl rfl) ?_
  refine qv_v (q_callV Try.func77 rfl rfl rfl (fun w1 H1 => rturned_calls _ 16 (by decide) w1)) ?_
  refine qv_end ?_
  refine VL.keep (Sub.cons (s := 0) rfl (Sub.cons (s := 1) rfl (Sub.cons (s := 2) rfl (Sub.cons (s := 3) rfl (Sub.cons (s := 4) rfl (Sub.cons (s := 5) rfl (Sub.cons (s := 6) rfl (Sub.cons (s := 28) rfl (Sub.cons (s := 29) rfl (Sub.cons (s := 39) rfl (Sub.nil _))))))))))) ?_
  refine vl_v (q_idxS0 Try.underlying82 sz56 rfl rfl (by omega) (by rw [Nat.mul_one, Nat.zero_add])) rfl ?_
  first | (refine l_stU32A 0 rfl rfl rfl sz56 (by first | omega | with_reducible assumption | (simp only [zb, zu, zw, zi, za]; omega) | (simp only [zs, zr, zm, za, zb, zu, zw, zi, zt, zd, zc, zn, *] <;> first | done | omega) | rfl) ?_) | (refine l_store1 0 rfl rfl rfl sz56 rfl (by first | decide | simp) ?_)
  simp only [List.set_cons_zero, List.set_cons_succ]
  refine vl_nil ?_
  refine (qn_n (th_n ?_))
  refine VC_seq ?_
  refine VC_drawV 11 [[], [], [], [], [2, 3], [4], [], [], [6, 7], [8], [5, 9], [0, 1, 2, 3, 4, 5, 6, 7, 8, 9, 10], [11, 10, 0, 1, 2, 3, 4, 5, 6, 7, 8, 9]] [[], [], [], [], [2, 3], [2, 3, 4], [], [], [6, 7], [6, 7, 8], [2, 3, 4, 5, 6, 7, 8, 9], [0, 1, 2, 3, 4, 5, 6, 7, 8, 9, 10], [0, 1, 2, 3, 4, 5, 6, 7, 8, 9, 10, 11]] rfl (by kernel_rfl) ?_
  refine qv_v (q_move rfl) ?_
  refine qv_v (q_move rfl) ?_
  refine qv_v (q_move rfl) ?_
  refine qv_v (q_move rfl) ?_
  refine qv_v (q_idxS0 Try.underlying82 sz56 rfl rfl (by omega) (by rw [Nat.mul_one, Nat.zero_add])) ?_
  first | (refine qv_v (q_load 0 Try.underlying56 rfl rfl rfl (u32s_atA (by first | omega | with_reducible assumption | (simp only [zb, zu, zw, zi, za]; omega) | (simp only [zs, zr, zm, za, zb, zu, zw, zi, zt, zd, zc, zn, *] <;> first | done | omega) | rfl))) ?_) | (refine qv_v (q_load 0 Try.underlying56 rfl rfl rfl rfl) ?_)
  refine qv_v (q_move rfl) ?_
  refine qv_v (q_move rfl) ?_
  refine qv_v (q_idxS0 Try.underlying82 sz56 rfl rfl (by omega) (by rw [Nat.mul_one, Nat.zero_add])) ?_
  first | (refine qv_v (q_load 0 Try.underlying56 rfl rfl rfl (u32s_atA (by first | omega | with_reducible assumption | (simp only [zb, zu, zw, zi, za]; omega) | (simp only [zs, zr, zm, za, zb, zu, zw, zi, zt, zd, zc, zn, *] <;> first | done | omega) | rfl))) ?_) | (refine qv_v (q_load 0 Try.underlying56 rfl rfl rfl rfl) ?_)
  refine qv_v (q_add_u32 rfl rfl) ?_
  refine qv_end ?_
  refine VL.keep (Sub.cons (s := 0) rfl (Sub.cons (s := 1) rfl (Sub.cons (s := 2) rfl (Sub.cons (s := 3) rfl (Sub.cons (s := 4) rfl (Sub.cons (s := 5) rfl (Sub.cons (s := 6) rfl (Sub.cons (s := 41) rfl (Sub.cons (s := 42) rfl (Sub.cons (s := 51) rfl (Sub.nil _))))))))))) ?_
  refine vl_v (q_idxS0 Try.underlying82 sz56 rfl rfl (by omega) (by rw [Nat.mul_one, Nat.zero_add])) rfl ?_
  first | (refine l_stU32A 0 rfl rfl rfl sz56 (by first | omega | with_reducible assumption | (simp only [zb, zu, zw, zi, za]; omega) | (simp only [zs, zr, zm, za, zb, zu, zw, zi, zt, zd, zc, zn, *] <;> first | done | omega) | rfl) ?_) | (refine l_store1 0 rfl rfl rfl sz56 rfl (by first | decide | simp) ?_)
  simp only [List.set_cons_zero, List.set_cons_succ]
  refine vl_nil ?_
  refine (qn_n (th_n ?_))
  refine VC_seq ?_
  refine VC_drawV 12 [[], [], [], [], [2, 3], [4], [], [], [6, 7], [8], [5, 9], [10], [0, 1, 2, 3, 4, 5, 6, 7, 8, 9, 10, 11], [12, 11, 0, 1, 2, 3, 4, 5, 6, 7, 8, 9, 10]] [[], [], [], [], [2, 3], [2, 3, 4], [], [], [6, 7], [6, 7, 8], [2, 3, 4, 5, 6, 7, 8, 9], [2, 3, 4, 5, 6, 7, 8, 9, 10], [0, 1, 2, 3, 4, 5, 6, 7, 8, 9, 10, 11], [0, 1, 2, 3, 4, 5, 6, 7, 8, 9, 10, 11, 12]] rfl (by kernel_rfl) ?_
  refine qv_v (q_move rfl) ?_
  refine qv_v (q_move rfl) ?_
  refine qv_v (q_move rfl) ?_
  refine qv_v (q_move rfl) ?_
  refine qv_v (q_idxS0 Try.underlying82 sz56 rfl rfl (by omega) (by rw [Nat.mul_one, Nat.zero_add])) ?_
  first | (refine qv_v (q_load 0 Try.underlying56 rfl rfl rfl (u32s_atA (by first | omega | with_reducible assumption | (simp only [zb, zu, zw, zi, za]; omega) | (simp only [zs, zr, zm, za, zb, zu, zw, zi, zt, zd, zc, zn, *] <;> first | done | omega) | rfl))) ?_) | (refine qv_v (q_load 0 Try.underlying56 rfl rfl rfl rfl) ?_)
  refine qv_v (q_move rfl) ?_
  refine qv_v (q_move rfl) ?_
  refine qv_v (q_idxS0 Try.underlying82 sz56 rfl rfl (by omega) (by rw [Nat.mul_one, Nat.zero_add])) ?_
  first | (refine qv_v (q_load 0 Try.underlying56 rfl rfl rfl (u32s_atA (by first | omega | with_reducible assumption | (simp only [zb, zu, zw, zi, za]; omega) | (simp only [zs, zr, zm, za, zb, zu, zw, zi, zt, zd, zc, zn, *] <;> first | done | omega) | rfl))) ?_) | (refine qv_v (q_load 0 Try.underlying56 rfl rfl rfl rfl) ?_)
  refine qv_v (q_xor_u32 rfl rfl) ?_
  refine qv_v (q_callV Try.func77 rfl rfl rfl (fun w1 H1 => rturned_calls _ 12 (by decide) w1)) ?_
  refine qv_end ?_
  refine VL.keep (Sub.cons (s := 0) rfl (Sub.cons (s := 1) rfl (Sub.cons (s := 2) rfl (Sub.cons (s := 3) rfl (Sub.cons (s := 4) rfl (Sub.cons (s := 5) rfl (Sub.cons (s := 6) rfl (Sub.cons (s := 53) rfl (Sub.cons (s := 54) rfl (Sub.cons (s := 64) rfl (Sub.nil _))))))))))) ?_
  refine vl_v (q_idxS0 Try.underlying82 sz56 rfl rfl (by omega) (by rw [Nat.mul_one, Nat.zero_add])) rfl ?_
  first | (refine l_stU32A 0 rfl rfl rfl sz56 (by first | omega | with_reducible assumption | (simp only [zb, zu, zw, zi, za]; omega) | (simp only [zs, zr, zm, za, zb, zu, zw, zi, zt, zd, zc, zn, *] <;> first | done | omega) | rfl) ?_) | (refine l_store1 0 rfl rfl rfl sz56 rfl (by first | decide | simp) ?_)
  simp only [List.set_cons_zero, List.set_cons_succ]
  refine vl_nil ?_
  refine (qn_n (th_n ?_))
  refine VC_seq ?_
  refine VC_drawV 13 [[], [], [], [], [2, 3], [4], [], [], [6, 7], [8], [5, 9], [], [10, 11], [0, 1, 2, 3, 4, 5, 6, 7, 8, 9, 10, 11, 12], [13, 12, 0, 1, 2, 3, 4, 5, 6, 7, 8, 9, 10, 11]] [[], [], [], [], [2, 3], [2, 3, 4], [], [], [6, 7], [6, 7, 8], [2, 3, 4, 5, 6, 7, 8, 9], [], [2, 3, 4, 5, 6, 7, 8, 9, 10, 11], [0, 1, 2, 3, 4, 5, 6, 7, 8, 9, 10, 11, 12], [0, 1, 2, 3, 4, 5, 6, 7, 8, 9, 10, 11, 12, 13]] rfl (by kernel_rfl) ?_
  refine qv_v (q_move rfl) ?_
  refine qv_v (q_move rfl) ?_
  refine qv_v (q_move rfl) ?_
  refine qv_v (q_move rfl) ?_
  refine qv_v (q_idxS0 Try.underlying82 sz56 rfl rfl (by omega) (by rw [Nat.mul_one, Nat.zero_add])) ?_
  first | (refine qv_v (q_load 0 Try.underlying56 rfl rfl rfl (u32s_atA (by first | omega | with_reducible assumption | (simp only [zb, zu, zw, zi, za]; omega) | (simp only [zs, zr, zm, za, zb, zu, zw, zi, zt, zd, zc, zn, *] <;> first | done | omega) | rfl))) ?_) | (refine qv_v (q_load 0 Try.underlying56 rfl rfl rfl rfl) ?_)
  refine qv_v (q_move rfl) ?_
  refine qv_v (q_move rfl) ?_
  refine qv_v (q_idxS0 Try.underlying82 sz56 rfl rfl (by omega) (by rw [Nat.mul_one, Nat.zero_add])) ?_
  first | (refine qv_v (q_load 0 Try.underlying56 rfl rfl rfl (u32s_atA (by first | omega | with_reducible assumption | (simp only [zb, zu, zw, zi, za]; omega) | (simp only [zs, zr, zm, za, zb, zu, zw, zi, zt, zd, zc, zn, *] <;> first | done | omega) | rfl))) ?_) | (refine qv_v (q_load 0 Try.underlying56 rfl rfl rfl rfl) ?_)
  refine qv_v (q_add_u32 rfl rfl) ?_
  refine qv_v (q_move rfl) ?_
  refine qv_v (q_add_u32 rfl rfl) ?_
  refine qv_end ?_
  refine VL.keep (Sub.cons (s := 0) rfl (Sub.cons (s := 1) rfl (Sub.cons (s := 2) rfl (Sub.cons (s := 3) rfl (Sub.cons (s := 4) rfl (Sub.cons (s := 5) rfl (Sub.cons (s := 6) rfl (Sub.cons (s := 66) rfl (Sub.cons (s := 67) rfl (Sub.cons (s := 78) rfl (Sub.nil _))))))))))) ?_
  refine vl_v (q_idxS0 Try.underlying82 sz56 rfl rfl (by omega) (by rw [Nat.mul_one, Nat.zero_add])) rfl ?_
  first | (refine l_stU32A 0 rfl rfl rfl sz56 (by first | omega | with_reducible assumption | (simp only [zb, zu, zw, zi, za]; omega) | (simp only [zs, zr, zm, za, zb, zu, zw, zi, zt, zd, zc, zn, *] <;> first | done | omega) | rfl) ?_) | (refine l_store1 0 rfl rfl rfl sz56 rfl (by first | decide | simp) ?_)
  simp only [List.set_cons_zero, List.set_cons_succ]
  refine vl_nil ?_
  refine (qn_n (th_n ?_))
  refine VC_seq ?_
  refine VC_drawV 12 [[], [], [], [], [2, 3], [4], [], [], [6, 7], [8], [5, 9], [10], [0, 1, 2, 3, 4, 5, 6, 7, 8, 9, 10, 11], [12, 11, 0, 1, 2, 3, 4, 5, 6, 7, 8, 9, 10]] [[], [], [], [], [2, 3], [2, 3, 4], [], [], [6, 7], [6, 7, 8], [2, 3, 4, 5, 6, 7, 8, 9], [2, 3, 4, 5, 6, 7, 8, 9, 10], [0, 1, 2, 3, 4, 5, 6, 7, 8, 9, 10, 11], [0, 1, 2, 3, 4, 5, 6, 7, 8, 9, 10, 11, 12]] rfl (by kernel_rfl) ?_
  refine qv_v (q_move rfl) ?_
  refine qv_v (q_move rfl) ?_
  refine qv_v (q_move rfl) ?_
  refine qv_v (q_move rfl) ?_
  refine qv_v (q_idxS0 Try.underlying82 sz56 rfl rfl (by omega) (by rw [Nat.mul_one, Nat.zero_add])) ?_
  first | (refine qv_v (q_load 0 Try.underlying56 rfl rfl rfl (u32s_atA (by first | omega | with_reducible assumption | (simp only [zb, zu, zw, zi, za]; omega) | (simp only [zs, zr, zm, za, zb, zu, zw, zi, zt, zd, zc, zn, *] <;> first | done | omega) | rfl))) ?_) | (refine qv_v (q_load 0 Try.underlying56 rfl rfl rfl rfl) ?_)
  refine qv_v (q_move rfl) ?_
  refine qv_v (q_move rfl) ?_
  refine qv_v (q_idxS0 Try.underlying82 sz56 rfl rfl (by omega) (by rw [Nat.mul_one, Nat.zero_add])) ?_
  first | (refine qv_v (q_load 0 Try.underlying56 rfl rfl rfl (u32s_atA (by first | omega | with_reducible assumption | (simp only [zb, zu, zw, zi, za]; omega) | (simp only [zs, zr, zm, za, zb, zu, zw, zi, zt, zd, zc, zn, *] <;> first | done | omega) | rfl))) ?_) | (refine qv_v (q_load 0 Try.underlying56 rfl rfl rfl rfl) ?_)
  refine qv_v (q_xor_u32 rfl rfl) ?_
  refine qv_v (q_callV Try.func77 rfl rfl rfl (fun w1 H1 => rturned_calls _ 8 (by decide) w1)) ?_
  refine qv_end ?_
  refine VL.keep (Sub.cons (s := 0) rfl (Sub.cons (s := 1) rfl (Sub.cons (s := 2) rfl (Sub.cons (s := 3) rfl (Sub.cons (s := 4) rfl (Sub.cons (s := 5) rfl (Sub.cons (s := 6) rfl (Sub.cons (s := 80) rfl (Sub.cons (s := 81) rfl (Sub.cons (s := 91) rfl (Sub.nil _))))))))))) ?_
  refine vl_v (q_idxS0 Try.underlying82 sz56 rfl rfl (by omega) (by rw [Nat.mul_one, Nat.zero_add])) rfl ?_
  first | (refine l_stU32A 0 rfl rfl rfl sz56 (by first | omega | with_reducible assumption | (simp only [zb, zu, zw, zi, za]; omega) | (simp only [zs, zr, zm, za, zb, zu, zw, zi, zt, zd, zc, zn, *] <;> first | done | omega) | rfl) ?_) | (refine l_store1 0 rfl rfl rfl sz56 rfl (by first | decide | simp) ?_)
  simp only [List.set_cons_zero, List.set_cons_succ]
  refine vl_nil ?_
  refine (qn_n (th_n ?_))
  refine VC_seq ?_
  refine VC_drawV 11 [[], [], [], [], [2, 3], [4], [], [], [6, 7], [8], [5, 9], [0, 1, 2, 3, 4, 5, 6, 7, 8, 9, 10], [11, 10, 0, 1, 2, 3, 4, 5, 6, 7, 8, 9]] [[], [], [], [], [2, 3], [2, 3, 4], [], [], [6, 7], [6, 7, 8], [2, 3, 4, 5, 6, 7, 8, 9], [0, 1, 2, 3, 4, 5, 6, 7, 8, 9, 10], [0, 1, 2, 3, 4, 5, 6, 7, 8, 9, 10, 11]] rfl (by kernel_rfl) ?_
  refine qv_v (q_move rfl) ?_
  refine qv_v (q_move rfl) ?_
  refine qv_v (q_move rfl) ?_
  refine qv_v (q_move rfl) ?_
  refine qv_v (q_idxS0 Try.underlying82 sz56 rfl rfl (by omega) (by rw [Nat.mul_one, Nat.zero_add])) ?_
  first | (refine qv_v (q_load 0 Try.underlying56 rfl rfl rfl (u32s_atA (by first | omega | with_reducible assumption | (simp only [zb, zu, zw, zi, za]; omega) | (simp only [zs, zr, zm, za, zb, zu, zw, zi, zt, zd, zc, zn, *] <;> first | done | omega) | rfl))) ?_) | (refine qv_v (q_load 0 Try.underlying56 rfl rfl rfl rfl) ?_)
  refine qv_v (q_move rfl) ?_
  refine qv_v (q_move rfl) ?_
  refine qv_v (q_idxS0 Try.underlying82 sz56 rfl rfl (by omega) (by rw [Nat.mul_one, Nat.zero_add])) ?_
  first | (refine qv_v (q_load 0 Try.underlying56 rfl rfl rfl (u32s_atA (by first | omega | with_reducible assumption | (simp only [zb, zu, zw, zi, za]; omega) | (simp only [zs, zr, zm, za, zb, zu, zw, zi, zt, zd, zc, zn, *] <;> first | done | omega) | rfl))) ?_) | (refine qv_v (q_load 0 Try.underlying56 rfl rfl rfl rfl) ?_)
  refine qv_v (q_add_u32 rfl rfl) ?_
  refine qv_end ?_
  refine VL.keep (Sub.cons (s := 0) rfl (Sub.cons (s := 1) rfl (Sub.cons (s := 2) rfl (Sub.cons (s := 3) rfl (Sub.cons (s := 4) rfl (Sub.cons (s := 5) rfl (Sub.cons (s := 6) rfl (Sub.cons (s := 93) rfl (Sub.cons (s := 94) rfl (Sub.cons (s := 103) rfl (Sub.nil _))))))))))) ?_
  refine vl_v (q_idxS0 Try.underlying82 sz56 rfl rfl (by omega) (by rw [Nat.mul_one, Nat.zero_add])) rfl ?_
  first | (refine l_stU32A 0 rfl rfl rfl sz56 (by first | omega | with_reducible assumption | (simp only [zb, zu, zw, zi, za]; omega) | (simp only [zs, zr, zm, za, zb, zu, zw, zi, zt, zd, zc, zn, *] <;> first | done | omega) | rfl) ?_) | (refine l_store1 0 rfl rfl rfl sz56 rfl (by first | decide | simp) ?_)
  simp only [List.set_cons_zero, List.set_cons_succ]
  refine vl_nil ?_
  refine (qn_n (th_n ?_))
  refine VC_drawV 12 [[], [], [], [], [2, 3], [4], [], [], [6, 7], [8], [5, 9], [10], [0, 1, 2, 3, 4, 5, 6, 7, 8, 9, 10, 11], [12, 11, 0, 1, 2, 3, 4, 5, 6, 7, 8, 9, 10]] [[], [], [], [], [2, 3], [2, 3, 4], [], [], [6, 7], [6, 7, 8], [2, 3, 4, 5, 6, 7, 8, 9], [2, 3, 4, 5, 6, 7, 8, 9, 10], [0, 1, 2, 3, 4, 5, 6, 7, 8, 9, 10, 11], [0, 1, 2, 3, 4, 5, 6, 7, 8, 9, 10, 11, 12]] rfl (by kernel_rfl) ?_
  refine qv_v (q_move rfl) ?_
  refine qv_v (q_move rfl) ?_
  refine qv_v (q_move rfl) ?_
  refine qv_v (q_move rfl) ?_
  refine qv_v (q_idxS0 Try.underlying82 sz56 rfl rfl (by omega) (by rw [Nat.mul_one, Nat.zero_add])) ?_
  first | (refine qv_v (q_load 0 Try.underlying56 rfl rfl rfl (u32s_atA (by first | omega | with_reducible assumption | (simp only [zb, zu, zw, zi, za]; omega) | (simp only [zs, zr, zm, za, zb, zu, zw, zi, zt, zd, zc, zn, *] <;> first | done | omega) | rfl))) ?_) | (refine qv_v (q_load 0 Try.underlying56 rfl rfl rfl rfl) ?_)
  refine qv_v (q_move rfl) ?_
  refine qv_v (q_move rfl) ?_
  refine qv_v (q_idxS0 Try.underlying82 sz56 rfl rfl (by omega) (by rw [Nat.mul_one, Nat.zero_add])) ?_
  first | (refine qv_v (q_load 0 Try.underlying56 rfl rfl rfl (u32s_atA (by first | omega | with_reducible assumption | (simp only [zb, zu, zw, zi, za]; omega) | (simp only [zs, zr, zm, za, zb, zu, zw, zi, zt, zd, zc, zn, *] <;> first | done | omega) | rfl))) ?_) | (refine qv_v (q_load 0 Try.underlying56 rfl rfl rfl rfl) ?_)
  refine qv_v (q_xor_u32 rfl rfl) ?_
  refine qv_v (q_callV Try.func77 rfl rfl rfl (fun w1 H1 => rturned_calls _ 7 (by decide) w1)) ?_
  refine qv_end ?_
  refine VL.keep (Sub.cons (s := 0) rfl (Sub.cons (s := 1) rfl (Sub.cons (s := 2) rfl (Sub.cons (s := 3) rfl (Sub.cons (s := 4) rfl (Sub.cons (s := 5) rfl (Sub.cons (s := 6) rfl (Sub.cons (s := 105) rfl (Sub.cons (s := 106) rfl (Sub.cons (s := 116) rfl (Sub.nil _))))))))))) ?_
  refine vl_v (q_idxS0 Try.underlying82 sz56 rfl rfl (by omega) (by rw [Nat.mul_one, Nat.zero_add])) rfl ?_
  first | (refine l_stU32A 0 rfl rfl rfl sz56 (by first | omega | with_reducible assumption | (simp only [zb, zu, zw, zi, za]; omega) | (simp only [zs, zr, zm, za, zb, zu, zw, zi, zt, zd, zc, zn, *] <;> first | done | omega) | rfl) ?_) | (refine l_store1 0 rfl rfl rfl sz56 rfl (by first | decide | simp) ?_)
  simp only [List.set_cons_zero, List.set_cons_succ]
  refine vl_nil ?_
  refine (qn_n ?_)
  refine ⟨_, res0 rfl, ?_⟩
  exact ⟨rfl, by simp only [mixL, UInt32.add_assoc, Nat.reduceSub]⟩
theorem rfirst_calls (w : World) :
    Calls Try.prog 59 #[] w fun e w' => ∃ v, e = .returned v ∧ St [] w [.row 56 1 v 8 (u32s iv)] w' := by
  refine enter (n := 2) (R := fun e L => ∃ v M, e = .returned v ∧ L = .row 56 1 v 8 (u32s iv) :: M) [] Try.func59 rfl rfl rfl (St.refl w) ?_ endRow
  refine VC_seq ?_
  refine VC_region ?_
  refine vl_v (q_assign rfl) rfl ?_
  refine vl_nil ?_
  refine (th_n ?_)
  refine VC_seq ?_
  refine VC_region ?_
  refine l_litA (cs := u32s [UInt32.ofNat 1779033703, UInt32.ofNat 3144134277, UInt32.ofNat 1013904242, UInt32.ofNat 2773480762, UInt32.ofNat 1359893119, UInt32.ofNat 2600822924, UInt32.ofNat 528734635, UInt32.ofNat 1541459225]) Try.underlying82 in56 (by decide) rfl rfl rfl rfl (by first | (with_reducible first | exact bys_one _ | exact u32s_one _ | exact u64s_one _ | exact i64s_one _ | exact n64s_one _ | assumption) | exact bys_one _ | exact u32s_one _ | exact u64s_one _ | exact i64s_one _ | exact one_all rfl | (refine app_one ?_ ?_ <;> first | exact bys_one _ | (simp; done))) rfl rfl ?_
  intro b1
  refine vl_v (q_assign rfl) rfl ?_
  refine vl_nil ?_
  refine (th_n ?_)
  refine VC_ret ?_
  refine ⟨_, res1 rfl rfl, ?_⟩
  exact ⟨_, _, rfl, rfl⟩
theorem filled_calls (b : List UInt8) (A : Option Addr) (c m : Nat) (hm : m = b.length) (hb : b.length ≤ 64) (w : World) (hA : SlAt w A (bys b)) :
    Calls Try.prog 60 #[.slice A m c] w fun e w' => ∃ v, e = .returned v ∧ St [] w [.row 5 1 v 64 (bys (padB b))] w' := by
  subst hm
  refine enter (n := 10) (R := fun e L => ∃ v M, e = .returned v ∧ L = .row 5 1 v 64 (bys (padB b)) :: M) [.slice A b.length c] Try.func60 rfl rfl rfl (St.refl w) ?_ endRow
  refine VC_seq ?_
  refine VC_region ?_
  refine vl_v (q_assign rfl) rfl ?_
  refine vl_nil ?_
  refine (th_n ?_)
  refine VC_seq ?_
  refine VC_region ?_
  refine l_litA (cs := bys []) Try.underlying24 in5 (by decide) rfl rfl rfl rfl (by first | (with_reducible first | exact bys_one _ | exact u32s_one _ | exact u64s_one _ | exact i64s_one _ | exact n64s_one _ | assumption) | exact bys_one _ | exact u32s_one _ | exact u64s_one _ | exact i64s_one _ | exact one_all rfl | (refine app_one ?_ ?_ <;> first | exact bys_one _ | (simp; done))) rfl rfl ?_
  intro b3
  refine vl_v (q_move rfl) rfl ?_
  refine l_append 0 rfl rfl rfl Try.underlying24 Try.underlying24 in5 rfl (by decide) (Reads.old hA) (by first | omega | with_reducible assumption | (simp only [zb, zu, zw, zi, za]; omega) | (simp only [zs, zr, zm, za, zb, zu, zw, zi, zt, zd, zc, zn, *] <;> first | done | omega) | rfl) (by first | (with_reducible first | exact bys_one _ | exact u32s_one _ | exact u64s_one _ | exact i64s_one _ | exact n64s_one _ | assumption) | exact bys_one _ | exact u32s_one _ | exact u64s_one _ | exact i64s_one _ | exact one_all rfl | (refine app_one ?_ ?_ <;> first | exact bys_one _ | (simp; done))) (by first | omega | with_reducible assumption | (simp only [zb, zu, zw, zi, za]; omega) | (simp only [zs, zr, zm, za, zb, zu, zw, zi, zt, zd, zc, zn, *] <;> first | done | omega) | rfl) (by first | omega | with_reducible assumption | (simp only [zb, zu, zw, zi, za]; omega) | (simp only [zs, zr, zm, za, zb, zu, zw, zi, zt, zd, zc, zn, *] <;> first | done | omega) | rfl) rfl ?_
  intro A5 c5 hc5
  simp only [List.set_cons_zero, List.set_cons_succ, ← bys_append, ← u32s_append, ← u64s_append, ← i64s_append, List.nil_append, Nat.zero_add]
  refine vl_v (q_move rfl) rfl ?_
  refine vl_v (q_lenS Try.underlying24 rfl) rfl ?_
  first | (refine vl_v (q_sub_n (p := 64) rfl rfl (by omega) (by omega)) rfl ?_) | (refine vl_v (q_sub_i rfl rfl (by omega) (by omega)) rfl ?_)
  refine l_appendZ 0 rfl rfl rfl Try.underlying24 Try.underlying3 in5 rfl rfl (by decide) (by omega) (by omega) rfl ?_
  intro A9 c9 hc9
  refine vl_v (q_assign rfl) rfl ?_
  refine vl_nil ?_
  refine (th_n ?_)
  refine VC_ret ?_
  refine ⟨_, res1 rfl rfl, ?_⟩
  exact ⟨_, _, rfl, by simp only [List.set_cons_zero]; rw [show b.length + (64 - b.length) = 64 by omega, padB, bys_append, repB]⟩
end Go.Proofs.Ytkadnmoephkklaa
