/- What the reference's functions of chapter 4 do. No condition. -/
import Derived.Test.YtkadnmoephkklaaC04d
import Derived.Test.YtkadnmoephkklaaR01
namespace Go.Proofs.Ytkadnmoephkklaa
open Go.RowKit Go.PBYtkadnmoephkklaa
set_option linter.unusedVariables false
set_option linter.unusedSimpArgs false
set_option maxRecDepth 10000

theorem left_calls (x : UInt32) (m : Nat) (h : m ≤ 32) (w : World) :
    Calls Try.prog 79 #[vU32 x, vN m] w fun e w' => e = .returned (vU32 (rotl x m)) ∧ Kept [] w w' := by
  refine enter (n := 13) (R := fun e L => e = .returned (vU32 (rotl x m))) [vU32 x, vN m] Try.func79 rfl rfl rfl (St.refl w) ?_ (fun e w' L' h H => ⟨h, H.kept⟩)
  refine VC_seq ?_
  refine VC_region ?_
  refine vl_v (q_assign rfl) rfl ?_
  refine vl_nil ?_
  refine (th_n ?_)
  refine VC_seq ?_
  refine VC_drawV 7 [[], [], [0, 1], [], [], [4], [3, 5], [2, 6], [7, 0, 1, 2, 3, 4, 5, 6]] [[], [], [0, 1], [], [], [4], [3, 4, 5], [0, 1, 2, 3, 4, 5, 6], [0, 1, 2, 3, 4, 5, 6, 7]] rfl (by kernel_rfl) ?_
  refine qv_v (q_move rfl) ?_
  refine qv_v (q_move rfl) ?_
  refine qv_v (q_shl_u32 rfl rfl) ?_
  refine qv_v (q_move rfl) ?_
  refine qv_v (q_move rfl) ?_
  first | (refine qv_v (q_sub_n (p := 32) rfl rfl (by omega) (by omega)) ?_) | (refine qv_v (q_sub_i rfl rfl (by omega) (by omega)) ?_)
  refine qv_v (q_shr_u32 rfl rfl) ?_
  refine qv_end ?_
  refine VL.keep (Sub.cons (s := 0) rfl (Sub.cons (s := 1) rfl (Sub.cons (s := 4) rfl (Sub.cons (s := 7) rfl (Sub.cons (s := 11) rfl (Sub.nil _)))))) ?_
  refine vl_v (q_or_u32 rfl rfl) rfl ?_
  refine vl_v (q_assign rfl) rfl ?_
  refine vl_nil ?_
  refine (qn_n (th_n ?_))
  refine VC_ret ?_
  refine ⟨_, res1 rfl rfl, ?_⟩
  exact rfl

set_option maxHeartbeats 1000000 in
theorem rquarter_calls {S : List Nat} {w0 : World} {R : List Res} {more : List Value} (l : List UInt32) (i1 i2 i3 i4 : Nat) (bl cap : Nat) (hl : l.length = 16) (h1 : i1 < 16) (h2 : i2 < 16) (h3 : i3 < 16) (h4 : i4 < 16) (w : World) (H : St S w0 (.blk bl 56 (u32s l ++ more) :: R) w) :
    Calls Try.prog 76 #[.slice (some ⟨bl, 0, none⟩) 16 cap, vN i1, vN i2, vN i3, vN i4] w fun e w' => e = .returned (.tuple #[]) ∧ St S w0 (.blk bl 56 (u32s (quarter l i1 i2 i3 i4) ++ more) :: R) w' := by
  refine enter (n := 110) (R := fun e L => e = .returned (.tuple #[]) ∧ L = .blk bl 56 (u32s (quarter l i1 i2 i3 i4) ++ more) :: R) [.slice (some ⟨bl, 0, none⟩) 16 cap, vN i1, vN i2, vN i3, vN i4] Try.func76 rfl rfl rfl H ?_ (fun e w' L' h H => ⟨h.1, h.2 ▸ H⟩)
  refine VC_seq ?_
  refine VC_drawV 11 [[], [], [], [], [2, 3], [4], [], [], [6, 7], [8], [5, 9], [0, 1, 2, 3, 4, 5, 6, 7, 8, 9, 10], [11, 10, 0, 1, 2, 3, 4, 5, 6, 7, 8, 9]] [[], [], [], [], [2, 3], [2, 3, 4], [], [], [6, 7], [6, 7, 8], [2, 3, 4, 5, 6, 7, 8, 9], [0, 1, 2, 3, 4, 5, 6, 7, 8, 9, 10], [0, 1, 2, 3, 4, 5, 6, 7, 8, 9, 10, 11]] rfl (by kernel_rfl) ?_
  refine qv_v (q_move rfl) ?_
  refine qv_v (q_move rfl) ?_
  refine qv_v (q_move rfl) ?_
  refine qv_v (q_move rfl) ?_
  refine qv_v (q_idxS0 Try.underlying82 sz56 rfl rfl (by omega) (by rw [Nat.mul_one, Nat.zero_add])) ?_
  first | (refine qv_v (q_load 0 Try.underlying56 rfl rfl rfl (u32s_atA (by first | omega | with_reducible assumption | (simp only [zb, zu, zw, zi, za]; omega) | (simp only [zs, zr, zm, za, zb, zu, zw, zi, zt, zd, zc, zn, *] <;> first | done | omega) | rfl))) ?_) | (refine qv_v (q_load 0 Try.underlying56 rfl rfl rfl rfl) ?_)
  refine qv_v (q_move rfl) ?_
  refine qv_v (q_move rfl) ?_
  refine qv_v (q_idxS0 Try.underlying82 sz56 rfl rfl (by omega) (by rw [Nat.mul_one, Nat.zero_add])) ?_
  first | (refine qv_v (q_load 0 Try.underlying56 rfl rfl rfl (u32s_atA (by first | omega | with_reducible assumption | (simp only [zb, zu, zw, zi, za]; omega) | (simp only [zs, zr, zm, za, zb, zu, zw, zi, zt, zd, zc, zn, *] <;> first | done | omega) | rfl))) ?_) | (refine qv_v (q_load 0 Try.underlying56 rfl rfl rfl rfl) ?_)
  refine qv_v (q_add_u32 rfl rfl) ?_
  refine qv_end ?_
  refine VL.keep (Sub.cons (s := 0) rfl (Sub.cons (s := 1) rfl (Sub.cons (s := 2) rfl (Sub.cons (s := 3) rfl (Sub.cons (s := 4) rfl (Sub.cons (s := 10) rfl (Sub.cons (s := 11) rfl (Sub.cons (s := 20) rfl (Sub.nil _))))))))) ?_
  refine vl_v (q_idxS0 Try.underlying82 sz56 rfl rfl (by omega) (by rw [Nat.mul_one, Nat.zero_add])) rfl ?_
  first | (refine l_stU32A 0 rfl rfl rfl sz56 (by first | omega | with_reducible assumption | (simp only [zb, zu, zw, zi, za]; omega) | (simp only [zs, zr, zm, za, zb, zu, zw, zi, zt, zd, zc, zn, *] <;> first | done | omega) | rfl) ?_) | (refine l_store1 0 rfl rfl rfl sz56 rfl (by first | decide | simp) ?_)
  simp only [List.set_cons_zero, List.set_cons_succ]
  refine vl_nil ?_
  refine (qn_n (th_n ?_))
  refine VC_seq ?_
  refine VC_drawV 12 [[], [], [], [], [2, 3], [4], [], [], [6, 7], [8], [5, 9], [10], [0, 1, 2, 3, 4, 5, 6, 7, 8, 9, 10, 11], [12, 11, 0, 1, 2, 3, 4, 5, 6, 7, 8, 9, 10]] [[], [], [], [], [2, 3], [2, 3, 4], [], [], [6, 7], [6, 7, 8], [2, 3, 4, 5, 6, 7, 8, 9], [2, 3, 4, 5, 6, 7, 8, 9, 10], [0, 1, 2, 3, 4, 5, 6, 7, 8, 9, 10, 11], [0, 1, 2, 3, 4, 5, 6, 7, 8, 9, 10, 11, 12]] rfl (by kernel_rfl) ?_
  refine qv_v (q_move rfl) ?_
  refine qv_v (q_move rfl) ?_
  refine qv_v (q_move rfl) ?_
  refine qv_v (q_move rfl) ?_
  refine qv_v (q_idxS0 Try.underlying82 sz56 rfl rfl (by omega) (by rw [Nat.mul_one, Nat.zero_add])) ?_
  first | (refine qv_v (q_load 0 Try.underlying56 rfl rfl rfl (u32s_atA (by first | omega | with_reducible assumption | (simp only [zb, zu, zw, zi, za]; omega) | (simp only [zs, zr, zm, za, zb, zu, zw, zi, zt, zd, zc, zn, *] <;> first | done | omega) | rfl))) ?_) | (refine qv_v (q_load 0 Try.underlying56 rfl rfl rfl rfl) ?_)
  refine qv_v (q_move rfl) ?_
  refine qv_v (q_move rfl) ?_
  refine qv_v (q_idxS0 Try.underlying82 sz56 rfl rfl (by omega) (by rw [Nat.mul_one, Nat.zero_add])) ?_
  first | (refine qv_v (q_load 0 Try.underlying56 rfl rfl rfl (u32s_atA (by first | omega | with_reducible assumption | (simp only [zb, zu, zw, zi, za]; omega) | (simp only [zs, zr, zm, za, zb, zu, zw, zi, zt, zd, zc, zn, *] <;> first | done | omega) | rfl))) ?_) | (refine qv_v (q_load 0 Try.underlying56 rfl rfl rfl rfl) ?_)
  refine qv_v (q_xor_u32 rfl rfl) ?_
  refine qv_v (q_callV Try.func79 rfl rfl rfl (fun w1 H1 => left_calls _ 16 (by omega) w1)) ?_
  refine qv_end ?_
  refine VL.keep (Sub.cons (s := 0) rfl (Sub.cons (s := 1) rfl (Sub.cons (s := 2) rfl (Sub.cons (s := 3) rfl (Sub.cons (s := 4) rfl (Sub.cons (s := 22) rfl (Sub.cons (s := 23) rfl (Sub.cons (s := 33) rfl (Sub.nil _))))))))) ?_
  refine vl_v (q_idxS0 Try.underlying82 sz56 rfl rfl (by omega) (by rw [Nat.mul_one, Nat.zero_add])) rfl ?_
  first | (refine l_stU32A 0 rfl rfl rfl sz56 (by first | omega | with_reducible assumption | (simp only [zb, zu, zw, zi, za]; omega) | (simp only [zs, zr, zm, za, zb, zu, zw, zi, zt, zd, zc, zn, *] <;> first | done | omega) | rfl) ?_) | (refine l_store1 0 rfl rfl rfl sz56 rfl (by first | decide | simp) ?_)
  simp only [List.set_cons_zero, List.set_cons_succ]
  refine vl_nil ?_
  refine (qn_n (th_n ?_))
  refine VC_seq ?_
  refine VC_drawV 11 [[], [], [], [], [2, 3], [4], [], [], [6, 7], [8], [5, 9], [0, 1, 2, 3, 4, 5, 6, 7, 8, 9, 10], [11, 10, 0, 1, 2, 3, 4, 5, 6, 7, 8, 9]] [[], [], [], [], [2, 3], [2, 3, 4], [], [], [6, 7], [6, 7, 8], [2, 3, 4, 5, 6, 7, 8, 9], [0, 1, 2, 3, 4, 5, 6, 7, 8, 9, 10], [0, 1, 2, 3, 4, 5, 6, 7, 8, 9, 10, 11]] rfl (by kernel_rfl) ?_
  refine qv_v (q_move rfl) ?_
  refine qv_v (q_move rfl) ?_
  refine qv_v (q_move rfl) ?_
  refine qv_v (q_move rfl) ?_
  refine qv_v (q_idxS0 Try.underlying82 sz56 rfl rfl (by omega) (by rw [Nat.mul_one, Nat.zero_add])) ?_
  first | (refine qv_v (q_load 0 Try.underlying56 rfl rfl rfl (u32s_atA (by first | omega | with_reducible assumption | (simp only [zb, zu, zw, zi, za]; omega) | (simp only [zs, zr, zm, za, zb, zu, zw, zi, zt, zd, zc, zn, *] <;> first | done | omega) | rfl))) ?_) | (refine qv_v (q_load 0 Try.underlying56 rfl rfl rfl rfl) ?_)
  refine qv_v (q_move rfl) ?_
  refine qv_v (q_move rfl) ?_
  refine qv_v (q_idxS0 Try.underlying82 sz56 rfl rfl (by omega) (by rw [Nat.mul_one, Nat.zero_add])) ?_
  first | (refine qv_v (q_load 0 Try.underlying56 rfl rfl rfl (u32s_atA (by first | omega | with_reducible assumption | (simp only [zb, zu, zw, zi, za]; omega) | (simp only [zs, zr, zm, za, zb, zu, zw, zi, zt, zd, zc, zn, *] <;> first | done | omega) | rfl))) ?_) | (refine qv_v (q_load 0 Try.underlying56 rfl rfl rfl rfl) ?_)
  refine qv_v (q_add_u32 rfl rfl) ?_
  refine qv_end ?_
  refine VL.keep (Sub.cons (s := 0) rfl (Sub.cons (s := 1) rfl (Sub.cons (s := 2) rfl (Sub.cons (s := 3) rfl (Sub.cons (s := 4) rfl (Sub.cons (s := 35) rfl (Sub.cons (s := 36) rfl (Sub.cons (s := 45) rfl (Sub.nil _))))))))) ?_
  refine vl_v (q_idxS0 Try.underlying82 sz56 rfl rfl (by omega) (by rw [Nat.mul_one, Nat.zero_add])) rfl ?_
  first | (refine l_stU32A 0 rfl rfl rfl sz56 (by first | omega | with_reducible assumption | (simp only [zb, zu, zw, zi, za]; omega) | (simp only [zs, zr, zm, za, zb, zu, zw, zi, zt, zd, zc, zn, *] <;> first | done | omega) | rfl) ?_) | (refine l_store1 0 rfl rfl rfl sz56 rfl (by first | decide | simp) ?_)
  simp only [List.set_cons_zero, List.set_cons_succ]
  refine vl_nil ?_
  refine (qn_n (th_n ?_))
  refine VC_seq ?_
  refine VC_drawV 12 [[], [], [], [], [2, 3], [4], [], [], [6, 7], [8], [5, 9], [10], [0, 1, 2, 3, 4, 5, 6, 7, 8, 9, 10, 11], [12, 11, 0, 1, 2, 3, 4, 5, 6, 7, 8, 9, 10]] [[], [], [], [], [2, 3], [2, 3, 4], [], [], [6, 7], [6, 7, 8], [2, 3, 4, 5, 6, 7, 8, 9], [2, 3, 4, 5, 6, 7, 8, 9, 10], [0, 1, 2, 3, 4, 5, 6, 7, 8, 9, 10, 11], [0, 1, 2, 3, 4, 5, 6, 7, 8, 9, 10, 11, 12]] rfl (by kernel_rfl) ?_
  refine qv_v (q_move rfl) ?_
  refine qv_v (q_move rfl) ?_
  refine qv_v (q_move rfl) ?_
  refine qv_v (q_move rfl) ?_
  refine qv_v (q_idxS0 Try.underlying82 sz56 rfl rfl (by omega) (by rw [Nat.mul_one, Nat.zero_add])) ?_
  first | (refine qv_v (q_load 0 Try.underlying56 rfl rfl rfl (u32s_atA (by first | omega | with_reducible assumption | (simp only [zb, zu, zw, zi, za]; omega) | (simp only [zs, zr, zm, za, zb, zu, zw, zi, zt, zd, zc, zn, *] <;> first | done | omega) | rfl))) ?_) | (refine qv_v (q_load 0 Try.underlying56 rfl rfl rfl rfl) ?_)
  refine qv_v (q_move rfl) ?_
  refine qv_v (q_move rfl) ?_
  refine qv_v (q_idxS0 Try.underlying82 sz56 rfl rfl (by omega) (by rw [Nat.mul_one, Nat.zero_add])) ?_
  first | (refine qv_v (q_load 0 Try.underlying56 rfl rfl rfl (u32s_atA (by first | omega | with_reducible assumption | (simp only [zb, zu, zw, zi, za]; omega) | (simp only [zs, zr, zm, za, zb, zu, zw, zi, zt, zd, zc, zn, *] <;> first | done | omega) | rfl))) ?_) | (refine qv_v (q_load 0 Try.underlying56 rfl rfl rfl rfl) ?_)
  refine qv_v (q_xor_u32 rfl rfl) ?_
  refine qv_v (q_callV Try.func79 rfl rfl rfl (fun w1 H1 => left_calls _ 12 (by omega) w1)) ?_
  refine qv_end ?_
  refine VL.keep (Sub.cons (s := 0) rfl (Sub.cons (s := 1) rfl (Sub.cons (s := 2) rfl (Sub.cons (s := 3) rfl (Sub.cons (s := 4) rfl (Sub.cons (s := 47) rfl (Sub.cons (s := 48) rfl (Sub.cons (s := 58) rfl (Sub.nil _))))))))) ?_
  refine vl_v (q_idxS0 Try.underlying82 sz56 rfl rfl (by omega) (by rw [Nat.mul_one, Nat.zero_add])) rfl ?_
  first | (refine l_stU32A 0 rfl rfl rfl sz56 (by first | omega | with_reducible assumption | (simp only [zb, zu, zw, zi, za]; omega) | (simp only [zs, zr, zm, za, zb, zu, zw, zi, zt, zd, zc, zn, *] <;> first | done | omega) | rfl) ?_) | (refine l_store1 0 rfl rfl rfl sz56 rfl (by first | decide | simp) ?_)
  simp only [List.set_cons_zero, List.set_cons_succ]
  refine vl_nil ?_
  refine (qn_n (th_n ?_))
  refine VC_seq ?_
  refine VC_drawV 11 [[], [], [], [], [2, 3], [4], [], [], [6, 7], [8], [5, 9], [0, 1, 2, 3, 4, 5, 6, 7, 8, 9, 10], [11, 10, 0, 1, 2, 3, 4, 5, 6, 7, 8, 9]] [[], [], [], [], [2, 3], [2, 3, 4], [], [], [6, 7], [6, 7, 8], [2, 3, 4, 5, 6, 7, 8, 9], [0, 1, 2, 3, 4, 5, 6, 7, 8, 9, 10], [0, 1, 2, 3, 4, 5, 6, 7, 8, 9, 10, 11]] rfl (by kernel_rfl) ?_
  refine qv_v (q_move rfl) ?_
  refine qv_v (q_move rfl) ?_
  refine qv_v (q_move rfl) ?_
  refine qv_v (q_move rfl) ?_
  refine qv_v (q_idxS0 Try.underlying82 sz56 rfl rfl (by omega) (by rw [Nat.mul_one, Nat.zero_add])) ?_
  first | (refine qv_v (q_load 0 Try.underlying56 rfl rfl rfl (u32s_atA (by first | omega | with_reducible assumption | (simp only [zb, zu, zw, zi, za]; omega) | (simp only [zs, zr, zm, za, zb, zu, zw, zi, zt, zd, zc, zn, *] <;> first | done | omega) | rfl))) ?_) | (refine qv_v (q_load 0 Try.underlying56 rfl rfl rfl rfl) ?_)
  refine qv_v (q_move rfl) ?_
  refine qv_v (q_move rfl) ?_
  refine qv_v (q_idxS0 Try.underlying82 sz56 rfl rfl (by omega) (by rw [Nat.mul_one, Nat.zero_add])) ?_
  first | (refine qv_v (q_load 0 Try.underlying56 rfl rfl rfl (u32s_atA (by first | omega | with_reducible assumption | (simp only [zb, zu, zw, zi, za]; omega) | (simp only [zs, zr, zm, za, zb, zu, zw, zi, zt, zd, zc, zn, *] <;> first | done | omega) | rfl))) ?_) | (refine qv_v (q_load 0 Try.underlying56 rfl rfl rfl rfl) ?_)
  refine qv_v (q_add_u32 rfl rfl) ?_
  refine qv_end ?_
  refine VL.keep (Sub.cons (s := 0) rfl (Sub.cons (s := 1) rfl (Sub.cons (s := 2) rfl (Sub.cons (s := 3) rfl (Sub.cons (s := 4) rfl (Sub.cons (s := 60) rfl (Sub.cons (s := 61) rfl (Sub.cons (s := 70) rfl (Sub.nil _))))))))) ?_
  refine vl_v (q_idxS0 Try.underlying82 sz56 rfl rfl (by omega) (by rw [Nat.mul_one, Nat.zero_add])) rfl ?_
  first | (refine l_stU32A 0 rfl rfl rfl sz56 (by first | omega | with_reducible assumption | (simp only [zb, zu, zw, zi, za]; omega) | (simp only [zs, zr, zm, za, zb, zu, zw, zi, zt, zd, zc, zn, *] <;> first | done | omega) | rfl) ?_) | (refine l_store1 0 rfl rfl rfl sz56 rfl (by first | decide | simp) ?_)
  simp only [List.set_cons_zero, List.set_cons_succ]
  refine vl_nil ?_
  refine (qn_n (th_n ?_))
  refine VC_seq ?_
  refine VC_drawV 12 [[], [], [], [], [2, 3], [4], [], [], [6, 7], [8], [5, 9], [10], [0, 1, 2, 3, 4, 5, 6, 7, 8, 9, 10, 11], [12, 11, 0, 1, 2, 3, 4, 5, 6, 7, 8, 9, 10]] [[], [], [], [], [2, 3], [2, 3, 4], [], [], [6, 7], [6, 7, 8], [2, 3, 4, 5, 6, 7, 8, 9], [2, 3, 4, 5, 6, 7, 8, 9, 10], [0, 1, 2, 3, 4, 5, 6, 7, 8, 9, 10, 11], [0, 1, 2, 3, 4, 5, 6, 7, 8, 9, 10, 11, 12]] rfl (by kernel_rfl) ?_
  refine qv_v (q_move rfl) ?_
  refine qv_v (q_move rfl) ?_
  refine qv_v (q_move rfl) ?_
  refine qv_v (q_move rfl) ?_
  refine qv_v (q_idxS0 Try.underlying82 sz56 rfl rfl (by omega) (by rw [Nat.mul_one, Nat.zero_add])) ?_
  first | (refine qv_v (q_load 0 Try.underlying56 rfl rfl rfl (u32s_atA (by first | omega | with_reducible assumption | (simp only [zb, zu, zw, zi, za]; omega) | (simp only [zs, zr, zm, za, zb, zu, zw, zi, zt, zd, zc, zn, *] <;> first | done | omega) | rfl))) ?_) | (refine qv_v (q_load 0 Try.underlying56 rfl rfl rfl rfl) ?_)
  refine qv_v (q_move rfl) ?_
  refine qv_v (q_move rfl) ?_
  refine qv_v (q_idxS0 Try.underlying82 sz56 rfl rfl (by omega) (by rw [Nat.mul_one, Nat.zero_add])) ?_
  first | (refine qv_v (q_load 0 Try.underlying56 rfl rfl rfl (u32s_atA (by first | omega | with_reducible assumption | (simp only [zb, zu, zw, zi, za]; omega) | (simp only [zs, zr, zm, za, zb, zu, zw, zi, zt, zd, zc, zn, *] <;> first | done | omega) | rfl))) ?_) | (refine qv_v (q_load 0 Try.underlying56 rfl rfl rfl rfl) ?_)
  refine qv_v (q_xor_u32 rfl rfl) ?_
  refine qv_v (q_callV Try.func79 rfl rfl rfl (fun w1 H1 => left_calls _ 8 (by omega) w1)) ?_
  refine qv_end ?_
  refine VL.keep (Sub.cons (s := 0) rfl (Sub.cons (s := 1) rfl (Sub.cons (s := 2) rfl (Sub.cons (s := 3) rfl (Sub.cons (s := 4) rfl (Sub.cons (s := 72) rfl (Sub.cons (s := 73) rfl (Sub.cons (s := 83) rfl (Sub.nil _))))))))) ?_
  refine vl_v (q_idxS0 Try.underlying82 sz56 rfl rfl (by omega) (by rw [Nat.mul_one, Nat.zero_add])) rfl ?_
  first | (refine l_stU32A 0 rfl rfl rfl sz56 (by first | omega | with_reducible assumption | (simp only [zb, zu, zw, zi, za]; omega) | (simp only [zs, zr, zm, za, zb, zu, zw, zi, zt, zd, zc, zn, *] <;> first | done | omega) | rfl) ?_) | (refine l_store1 0 rfl rfl rfl sz56 rfl (by first | decide | simp) ?_)
  simp only [List.set_cons_zero, List.set_cons_succ]
  refine vl_nil ?_
  refine (qn_n (th_n ?_))
  refine VC_seq ?_
  refine VC_drawV 11 [[], [], [], [], [2, 3], [4], [], [], [6, 7], [8], [5, 9], [0, 1, 2, 3, 4, 5, 6, 7, 8, 9, 10], [11, 10, 0, 1, 2, 3, 4, 5, 6, 7, 8, 9]] [[], [], [], [], [2, 3], [2, 3, 4], [], [], [6, 7], [6, 7, 8], [2, 3, 4, 5, 6, 7, 8, 9], [0, 1, 2, 3, 4, 5, 6, 7, 8, 9, 10], [0, 1, 2, 3, 4, 5, 6, 7, 8, 9, 10, 11]] rfl (by kernel_rfl) ?_
  refine qv_v (q_move rfl) ?_
  refine qv_v (q_move rfl) ?_
  refine qv_v (q_move rfl) ?_
  refine qv_v (q_move rfl) ?_
  refine qv_v (q_idxS0 Try.underlying82 sz56 rfl rfl (by omega) (by rw [Nat.mul_one, Nat.zero_add])) ?_
  first | (refine qv_v (q_load 0 Try.underlying56 rfl rfl rfl (u32s_atA (by first | omega | with_reducible assumption | (simp only [zb, zu, zw, zi, za]; omega) | (simp only [zs, zr, zm, za, zb, zu, zw, zi, zt, zd, zc, zn, *] <;> first | done | omega) | rfl))) ?_) | (refine qv_v (q_load 0 Try.underlying56 rfl rfl rfl rfl) ?_)
  refine qv_v (q_move rfl) ?_
  refine qv_v (q_move rfl) ?_
  refine qv_v (q_idxS0 Try.underlying82 sz56 rfl rfl (by omega) (by rw [Nat.mul_one, Nat.zero_add])) ?_
  first | (refine qv_v (q_load 0 Try.underlying56 rfl rfl rfl (u32s_atA (by first | omega | with_reducible assumption | (simp only [zb, zu, zw, zi, za]; omega) | (simp only [zs, zr, zm, za, zb, zu, zw, zi, zt, zd, zc, zn, *] <;> first | done | omega) | rfl))) ?_) | (refine qv_v (q_load 0 Try.underlying56 rfl rfl rfl rfl) ?_)
  refine qv_v (q_add_u32 rfl rfl) ?_
  refine qv_end ?_
  refine VL.keep (Sub.cons (s := 0) rfl (Sub.cons (s := 1) rfl (Sub.cons (s := 2) rfl (Sub.cons (s := 3) rfl (Sub.cons (s := 4) rfl (Sub.cons (s := 85) rfl (Sub.cons (s := 86) rfl (Sub.cons (s := 95) rfl (Sub.nil _))))))))) ?_
  refine vl_v (q_idxS0 Try.underlying82 sz56 rfl rfl (by omega) (by rw [Nat.mul_one, Nat.zero_add])) rfl ?_
  first | (refine l_stU32A 0 rfl rfl rfl sz56 (by first | omega | with_reducible assumption | (simp only [zb, zu, zw, zi, za]; omega) | (simp only [zs, zr, zm, za, zb, zu, zw, zi, zt, zd, zc, zn, *] <;> first | done | omega) | rfl) ?_) | (refine l_store1 0 rfl rfl rfl sz56 rfl (by first | decide | simp) ?_)
  simp only [List.set_cons_zero, List.set_cons_succ]
  refine vl_nil ?_
  refine (qn_n (th_n ?_))
  refine VC_drawV 12 [[], [], [], [], [2, 3], [4], [], [], [6, 7], [8], [5, 9], [10], [0, 1, 2, 3, 4, 5, 6, 7, 8, 9, 10, 11], [12, 11, 0, 1, 2, 3, 4, 5, 6, 7, 8, 9, 10]] [[], [], [], [], [2, 3], [2, 3, 4], [], [], [6, 7], [6, 7, 8], [2, 3, 4, 5, 6, 7, 8, 9], [2, 3, 4, 5, 6, 7, 8, 9, 10], [0, 1, 2, 3, 4, 5, 6, 7, 8, 9, 10, 11], [0, 1, 2, 3, 4, 5, 6, 7, 8, 9, 10, 11, 12]] rfl (by kernel_rfl) ?_
  refine qv_v (q_move rfl) ?_
  refine qv_v (q_move rfl) ?_
  refine qv_v (q_move rfl) ?_
  refine qv_v (q_move rfl) ?_
  refine qv_v (q_idxS0 Try.underlying82 sz56 rfl rfl (by omega) (by rw [Nat.mul_one, Nat.zero_add])) ?_
  first | (refine qv_v (q_load 0 Try.underlying56 rfl rfl rfl (u32s_atA (by first | omega | with_reducible assumption | (simp only [zb, zu, zw, zi, za]; omega) | (simp only [zs, zr, zm, za, zb, zu, zw, zi, zt, zd, zc, zn, *] <;> first | done | omega) | rfl))) ?_) | (refine qv_v (q_load 0 Try.underlying56 rfl rfl rfl rfl) ?_)
  refine qv_v (q_move rfl) ?_
  refine qv_v (q_move rfl) ?_
  refine qv_v (q_idxS0 Try.underlying82 sz56 rfl rfl (by omega) (by rw [Nat.mul_one, Nat.zero_add])) ?_
  first | (refine qv_v (q_load 0 Try.underlying56 rfl rfl rfl (u32s_atA (by first | omega | with_reducible assumption | (simp only [zb, zu, zw, zi, za]; omega) | (simp only [zs, zr, zm, za, zb, zu, zw, zi, zt, zd, zc, zn, *] <;> first | done | omega) | rfl))) ?_) | (refine qv_v (q_load 0 Try.underlying56 rfl rfl rfl rfl) ?_)
  refine qv_v (q_xor_u32 rfl rfl) ?_
  refine qv_v (q_callV Try.func79 rfl rfl rfl (fun w1 H1 => left_calls _ 7 (by omega) w1)) ?_
  refine qv_end ?_
  refine VL.keep (Sub.cons (s := 0) rfl (Sub.cons (s := 1) rfl (Sub.cons (s := 2) rfl (Sub.cons (s := 3) rfl (Sub.cons (s := 4) rfl (Sub.cons (s := 97) rfl (Sub.cons (s := 98) rfl (Sub.cons (s := 108) rfl (Sub.nil _))))))))) ?_
  refine vl_v (q_idxS0 Try.underlying82 sz56 rfl rfl (by omega) (by rw [Nat.mul_one, Nat.zero_add])) rfl ?_
  first | (refine l_stU32A 0 rfl rfl rfl sz56 (by first | omega | with_reducible assumption | (simp only [zb, zu, zw, zi, za]; omega) | (simp only [zs, zr, zm, za, zb, zu, zw, zi, zt, zd, zc, zn, *] <;> first | done | omega) | rfl) ?_) | (refine l_store1 0 rfl rfl rfl sz56 rfl (by first | decide | simp) ?_)
  simp only [List.set_cons_zero, List.set_cons_succ]
  refine vl_nil ?_
  refine (qn_n ?_)
  refine ⟨_, res0 rfl, ?_⟩
  exact ⟨rfl, rfl⟩
end Go.Proofs.Ytkadnmoephkklaa
namespace Go.Proofs.Ytkadnmoephkklaa
open Go.RowKit Go.PBYtkadnmoephkklaa
set_option linter.unusedVariables false
set_option linter.unusedSimpArgs false
set_option maxRecDepth 10000

theorem rOf4 {S : List Nat} {w0 w : World} {L : List Res} {b : Nat} {T : TypeId} {l : List UInt8} (k o c r : Nat) (H : St S w0 L w) (hk : L[k]? = some (.blk b T (bys l))) (ho : o + 4 ≤ l.length) (hc : 4 ≤ c) (hl : l.length ≤ 1000) (hr : r = 4) :
    Calls Try.prog 70 #[.slice (some ⟨b, o, none⟩) r c] w fun e w' => e = .returned (.int .u64 (ofHigh ((l.drop o).take 4).reverse)) ∧ Kept [] w w' := by
  subst hr
  have e1 : ((l.drop o).take 4).length = 4 := by rw [List.length_take, List.length_drop]; omega
  have h := rofLow_calls ((l.drop o).take 4) (some ⟨b, o, none⟩) c w (by rw [← bys_take]; exact (sl_arr k o H hk).take 4) (by rw [e1]; exact hc) (by rw [e1]; omega)
  rw [e1, List.take_of_length_le (l := (l.drop o).take 4) (by rw [e1]; omega)] at h
  exact h
set_option maxHeartbeats 2000000 in
theorem rblock_calls (k nn : List UInt8) (nu : UInt32) (hk : k.length = 32) (hn : nn.length = 12) (w : World) :
    Calls Try.prog 68 #[.agg (bys k).toArray, .agg (bys nn).toArray, vU32 nu] w fun e w' => e = .returned (.agg (bys (block k nn nu)).toArray) ∧ Kept [] w w' := by
  have hv := beg_length k nn nu
  refine enter (n := 95) (R := fun e L => e = .returned (.agg (bys (block k nn nu)).toArray)) [.agg (bys k).toArray, .agg (bys nn).toArray, vU32 nu] Try.func68 rfl rfl rfl (St.refl w) ?_ (fun e w' L' h H => ⟨h, H.kept⟩)
  refine VC_seq ?_
  refine VC_region ?_
  refine l_boxA rfl rfl ?_
  intro b3
  refine l_boxA rfl rfl ?_
  intro b4
  refine l_allocA zr64 rfl ?_
  intro b6
  refine vl_nil ?_
  refine (th_n ?_)
  refine VC_seq ?_
  refine VC_region ?_
  refine l_litA (cs := u32s [UInt32.ofNat 1634760805, UInt32.ofNat 857760878, UInt32.ofNat 2036477234, UInt32.ofNat 1797285236]) Try.underlying82 in56 (by decide) rfl rfl rfl rfl (by first | (with_reducible first | exact bys_one _ | exact u32s_one _ | exact u64s_one _ | exact i64s_one _ | exact n64s_one _ | assumption) | exact bys_one _ | exact u32s_one _ | exact u64s_one _ | exact i64s_one _ | exact one_all rfl | (refine app_one ?_ ?_ <;> first | exact bys_one _ | (simp; done))) rfl rfl ?_
  intro b14
  refine vl_v (q_assign rfl) rfl ?_
  refine vl_nil ?_
  refine (th_n ?_)
  refine VC_seq ?_
  refine VC_seq ?_
  refine VC_region ?_
  refine vl_v (q_assign rfl) rfl ?_
  refine vl_nil ?_
  refine (th_n ?_)
  refine VC_block ?_
  refine VC_loop (ι := Nat × Option Addr × Nat) (fun q => q.1 ≤ 8) (fun q => [(2, vU32 nu), (3, vP b3 0), (4, vP b4 0), (6, vP b6 0), (7, .slice q.2.1 (4 + q.1) q.2.2), (8, vN q.1)]) (fun q => [.row 56 1 (.slice q.2.1 (4 + q.1) q.2.2) (4 + q.1) (u32s (rkW k q.1)), .blk b6 64 (bys (List.replicate 64 0)), .blk b4 90 (bys nn), .blk b3 23 (bys k)]) (fun q => 8 - q.1) (0, some ⟨b14, 0, none⟩, 4) (by omega) (Sub.cons (s := 2) rfl (Sub.cons (s := 3) rfl (Sub.cons (s := 4) rfl (Sub.cons (s := 6) rfl (Sub.cons (s := 7) rfl (Sub.cons (s := 8) rfl (Sub.nil _))))))) (fun w H => H) ?_
  rintro ⟨i, A, c⟩ hp
  simp only at hp
  refine VC_seq ?_
  refine VC_seq ?_
  refine VC_region ?_
  refine vl_v (q_move rfl) rfl ?_
  first | (refine vl_v (q_lss_n (q := 8) Try.underlying3 rfl rfl) rfl ?_) | (refine vl_v (q_lss_k Try.underlying3 rfl rfl) rfl ?_)
  refine vl_nil ?_
  refine (th_n ?_)
  refine VC_cond rfl (fun ht16 => ?_) (fun ht16 => ?_)
  · skip
    have ht16 := of_decide_eq_true ht16
    simp only at ht16
    have hl := rkW_length k i
    refine VC_skip ?_
    refine (th_n ?_)
    refine VC_seq ?_
    refine VC_block ?_
    refine VC_region ?_
    refine vl_v (q_move rfl) rfl ?_
    refine vl_v (q_move rfl) rfl ?_
    first | (refine vl_v (q_mul_n (p := 4) rfl rfl (by omega)) rfl ?_) | (refine vl_v (q_mul_i rfl rfl (by omega) (by omega)) rfl ?_)
    refine vl_v (q_move rfl) rfl ?_
    first | (refine vl_v (q_mul_n (p := 4) rfl rfl (by omega)) rfl ?_) | (refine vl_v (q_mul_i rfl rfl (by omega) (by omega)) rfl ?_)
    first | (refine vl_v (q_add_n (q := 4) rfl rfl (by omega)) rfl ?_) | (refine vl_v (q_add_i rfl rfl (by omega) (by omega)) rfl ?_)
    refine vl_v (q_slcA Try.underlying23 sz5 rfl ⟨_, rfl⟩ ⟨_, rfl⟩ rfl (.inl rfl) (by omega) (by omega) (by omega) (by omega) (by (try simp only [Nat.mul_one, Nat.zero_add, Nat.zero_mul, Nat.mul_zero, Nat.add_zero]) <;> rfl)) rfl ?_
    refine vl_v (q_callV Try.func70 rfl rfl rfl (fun w1 H1 => rOf4 3 (4 * i) _ _ H1 rfl (by omega) (by omega) (by omega) (by omega))) rfl ?_
    refine vl_v (q_conv_nu32 Try.underlying61 Try.underlying56 rfl) rfl ?_
    refine l_litA (cs := u32s [_]) Try.underlying82 in56 (by decide) rfl rfl rfl rfl (by first | (with_reducible first | exact bys_one _ | exact u32s_one _ | exact u64s_one _ | exact i64s_one _ | exact n64s_one _ | assumption) | exact bys_one _ | exact u32s_one _ | exact u64s_one _ | exact i64s_one _ | exact one_all rfl | (refine app_one ?_ ?_ <;> first | exact bys_one _ | (simp; done))) rfl rfl ?_
    intro b28
    refine l_append 1 rfl rfl rfl Try.underlying82 Try.underlying82 in56 rfl (by decide) (Reads.row 0 rfl) (by first | omega | with_reducible assumption | (simp only [zb, zu, zw, zi, za]; omega) | (simp only [zs, zr, zm, za, zb, zu, zw, zi, zt, zd, zc, zn, *] <;> first | done | omega) | rfl) (by first | (with_reducible first | exact bys_one _ | exact u32s_one _ | exact u64s_one _ | exact i64s_one _ | exact n64s_one _ | assumption) | exact bys_one _ | exact u32s_one _ | exact u64s_one _ | exact i64s_one _ | exact one_all rfl | (refine app_one ?_ ?_ <;> first | exact bys_one _ | (simp; done))) (by first | omega | with_reducible assumption | (simp only [zb, zu, zw, zi, za]; omega) | (simp only [zs, zr, zm, za, zb, zu, zw, zi, zt, zd, zc, zn, *] <;> first | done | omega) | rfl) (by first | omega | with_reducible assumption | (simp only [zb, zu, zw, zi, za]; omega) | (simp only [zs, zr, zm, za, zb, zu, zw, zi, zt, zd, zc, zn, *] <;> first | done | omega) | rfl) rfl ?_
    intro A29 c29 hc29
    simp only [List.set_cons_zero, List.set_cons_succ, ← bys_append, ← u32s_append, ← u64s_append, ← i64s_append, List.nil_append, Nat.zero_add]
    refine vl_v (q_assign rfl) rfl ?_
    refine vl_nil ?_
    refine (bl_n (th_n ?_))
    refine VC_region ?_
    refine vl_v (q_move rfl) rfl ?_
    first | (refine vl_v (q_add_n (q := 1) rfl rfl (by omega)) rfl ?_) | (refine vl_v (q_add_i rfl rfl (by omega) (by omega)) rfl ?_)
    refine vl_v (q_assign rfl) rfl ?_
    refine vl_nil ?_
    refine (th_n ?_)
    refine ⟨(i + 1, A29, c29), by simp only; omega, by simp only; omega, (Sub.cons (s := 2) rfl (Sub.cons (s := 3) rfl (Sub.cons (s := 4) rfl (Sub.cons (s := 6) rfl (Sub.cons (s := 7) rfl (Sub.cons (s := 8) rfl (Sub.nil _))))))), fun w H => St.pick H (ks := [1, 2, 3, 4]) (by decide) rfl⟩
  · skip
    have ht16 := of_decide_eq_false ht16
    simp only at ht16
    obtain rfl : i = 8 := by omega
    have hl := rkW_length k 8
    refine VC_exit ?_
    refine (th_x (th_x (bl_xs (th_n ?_))))
    refine VC_seq ?_
    refine VC_region ?_
    refine vl_v (q_move rfl) rfl ?_
    refine vl_v (q_move rfl) rfl ?_
    refine l_litA (cs := u32s [_]) Try.underlying82 in56 (by decide) rfl rfl rfl rfl (by first | (with_reducible first | exact bys_one _ | exact u32s_one _ | exact u64s_one _ | exact i64s_one _ | exact n64s_one _ | assumption) | exact bys_one _ | exact u32s_one _ | exact u64s_one _ | exact i64s_one _ | exact one_all rfl | (refine app_one ?_ ?_ <;> first | exact bys_one _ | (simp; done))) rfl rfl ?_
    intro b32
    refine l_append 1 rfl rfl rfl Try.underlying82 Try.underlying82 in56 rfl (by decide) (Reads.row 0 rfl) (by first | omega | with_reducible assumption | (simp only [zb, zu, zw, zi, za]; omega) | (simp only [zs, zr, zm, za, zb, zu, zw, zi, zt, zd, zc, zn, *] <;> first | done | omega) | rfl) (by first | (with_reducible first | exact bys_one _ | exact u32s_one _ | exact u64s_one _ | exact i64s_one _ | exact n64s_one _ | assumption) | exact bys_one _ | exact u32s_one _ | exact u64s_one _ | exact i64s_one _ | exact one_all rfl | (refine app_one ?_ ?_ <;> first | exact bys_one _ | (simp; done))) (by first | omega | with_reducible assumption | (simp only [zb, zu, zw, zi, za]; omega) | (simp only [zs, zr, zm, za, zb, zu, zw, zi, zt, zd, zc, zn, *] <;> first | done | omega) | rfl) (by first | omega | with_reducible assumption | (simp only [zb, zu, zw, zi, za]; omega) | (simp only [zs, zr, zm, za, zb, zu, zw, zi, zt, zd, zc, zn, *] <;> first | done | omega) | rfl) rfl ?_
    intro A33 c33 hc33
    simp only [List.set_cons_zero, List.set_cons_succ, ← bys_append, ← u32s_append, ← u64s_append, ← i64s_append, List.nil_append, Nat.zero_add]
    refine vl_v (q_assign rfl) rfl ?_
    refine vl_nil ?_
    refine (th_n ?_)
    refine VC_seq ?_
    refine VC_seq ?_
    refine VC_region ?_
    refine vl_v (q_assign rfl) rfl ?_
    refine vl_nil ?_
    refine (th_n ?_)
    refine VC_block ?_
    refine VC_loop (ι := Nat × Option Addr × Nat) (fun q => q.1 ≤ 3) (fun q => [(4, vP b4 0), (6, vP b6 0), (7, .slice q.2.1 (13 + q.1) q.2.2), (9, vN q.1)]) (fun q => [.row 56 1 (.slice q.2.1 (13 + q.1) q.2.2) (13 + q.1) (u32s (rnW k nn nu q.1)), .blk b6 64 (bys (List.replicate 64 0)), .blk b4 90 (bys nn)]) (fun q => 3 - q.1) (0, A33, c33) (by omega) (Sub.cons (s := 4) rfl (Sub.cons (s := 6) rfl (Sub.cons (s := 7) rfl (Sub.cons (s := 9) rfl (Sub.nil _))))) (fun w H => St.pick H (ks := [1, 2, 3]) (by decide) rfl) ?_
    rintro ⟨j, B, d⟩ hp
    simp only at hp
    refine VC_seq ?_
    refine VC_seq ?_
    refine VC_region ?_
    refine vl_v (q_move rfl) rfl ?_
    first | (refine vl_v (q_lss_n (q := 3) Try.underlying3 rfl rfl) rfl ?_) | (refine vl_v (q_lss_k Try.underlying3 rfl rfl) rfl ?_)
    refine vl_nil ?_
    refine (th_n ?_)
    refine VC_cond rfl (fun ht35 => ?_) (fun ht35 => ?_)
    · skip
      have ht35 := of_decide_eq_true ht35
      simp only at ht35
      have hl := rnW_length k nn nu j
      refine VC_skip ?_
      refine (th_n ?_)
      refine VC_seq ?_
      refine VC_block ?_
      refine VC_region ?_
      refine vl_v (q_move rfl) rfl ?_
      refine vl_v (q_move rfl) rfl ?_
      first | (refine vl_v (q_mul_n (p := 4) rfl rfl (by omega)) rfl ?_) | (refine vl_v (q_mul_i rfl rfl (by omega) (by omega)) rfl ?_)
      refine vl_v (q_move rfl) rfl ?_
      first | (refine vl_v (q_mul_n (p := 4) rfl rfl (by omega)) rfl ?_) | (refine vl_v (q_mul_i rfl rfl (by omega) (by omega)) rfl ?_)
      first | (refine vl_v (q_add_n (q := 4) rfl rfl (by omega)) rfl ?_) | (refine vl_v (q_add_i rfl rfl (by omega) (by omega)) rfl ?_)
      refine vl_v (q_slcA Try.underlying90 sz5 rfl ⟨_, rfl⟩ ⟨_, rfl⟩ rfl (.inl rfl) (by omega) (by omega) (by omega) (by omega) (by (try simp only [Nat.mul_one, Nat.zero_add, Nat.zero_mul, Nat.mul_zero, Nat.add_zero]) <;> rfl)) rfl ?_
      refine vl_v (q_callV Try.func70 rfl rfl rfl (fun w1 H1 => rOf4 2 (4 * j) _ _ H1 rfl (by omega) (by omega) (by omega) (by omega))) rfl ?_
      refine vl_v (q_conv_nu32 Try.underlying61 Try.underlying56 rfl) rfl ?_
      refine l_litA (cs := u32s [_]) Try.underlying82 in56 (by decide) rfl rfl rfl rfl (by first | (with_reducible first | exact bys_one _ | exact u32s_one _ | exact u64s_one _ | exact i64s_one _ | exact n64s_one _ | assumption) | exact bys_one _ | exact u32s_one _ | exact u64s_one _ | exact i64s_one _ | exact one_all rfl | (refine app_one ?_ ?_ <;> first | exact bys_one _ | (simp; done))) rfl rfl ?_
      intro b47
      refine l_append 1 rfl rfl rfl Try.underlying82 Try.underlying82 in56 rfl (by decide) (Reads.row 0 rfl) (by first | omega | with_reducible assumption | (simp only [zb, zu, zw, zi, za]; omega) | (simp only [zs, zr, zm, za, zb, zu, zw, zi, zt, zd, zc, zn, *] <;> first | done | omega) | rfl) (by first | (with_reducible first | exact bys_one _ | exact u32s_one _ | exact u64s_one _ | exact i64s_one _ | exact n64s_one _ | assumption) | exact bys_one _ | exact u32s_one _ | exact u64s_one _ | exact i64s_one _ | exact one_all rfl | (refine app_one ?_ ?_ <;> first | exact bys_one _ | (simp; done))) (by first | omega | with_reducible assumption | (simp only [zb, zu, zw, zi, za]; omega) | (simp only [zs, zr, zm, za, zb, zu, zw, zi, zt, zd, zc, zn, *] <;> first | done | omega) | rfl) (by first | omega | with_reducible assumption | (simp only [zb, zu, zw, zi, za]; omega) | (simp only [zs, zr, zm, za, zb, zu, zw, zi, zt, zd, zc, zn, *] <;> first | done | omega) | rfl) rfl ?_
      intro A48 c48 hc48
      simp only [List.set_cons_zero, List.set_cons_succ, ← bys_append, ← u32s_append, ← u64s_append, ← i64s_append, List.nil_append, Nat.zero_add]
      refine vl_v (q_assign rfl) rfl ?_
      refine vl_nil ?_
      refine (bl_n (th_n ?_))
      refine VC_region ?_
      refine vl_v (q_move rfl) rfl ?_
      first | (refine vl_v (q_add_n (q := 1) rfl rfl (by omega)) rfl ?_) | (refine vl_v (q_add_i rfl rfl (by omega) (by omega)) rfl ?_)
      refine vl_v (q_assign rfl) rfl ?_
      refine vl_nil ?_
      refine (th_n ?_)
      refine ⟨(j + 1, A48, c48), by simp only; omega, by simp only; omega, (Sub.cons (s := 4) rfl (Sub.cons (s := 6) rfl (Sub.cons (s := 7) rfl (Sub.cons (s := 9) rfl (Sub.nil _))))), fun w H => St.pick H (ks := [1, 2, 3]) (by decide) rfl⟩
    · skip
      have ht35 := of_decide_eq_false ht35
      simp only at ht35
      obtain rfl : j = 3 := by omega
      rw [rnW_beg]
      refine VC_exit ?_
      refine (th_x (th_x (bl_xs (th_n ?_))))
      refine VC_seq ?_
      refine VC_region ?_
      refine l_litA (cs := u32s []) Try.underlying82 in56 (by decide) rfl rfl rfl rfl (by first | (with_reducible first | exact bys_one _ | exact u32s_one _ | exact u64s_one _ | exact i64s_one _ | exact n64s_one _ | assumption) | exact bys_one _ | exact u32s_one _ | exact u64s_one _ | exact i64s_one _ | exact one_all rfl | (refine app_one ?_ ?_ <;> first | exact bys_one _ | (simp; done))) rfl rfl ?_
      intro b49
      refine vl_v (q_move rfl) rfl ?_
      refine l_append 0 rfl rfl rfl Try.underlying82 Try.underlying82 in56 rfl (by decide) (Reads.row 1 rfl) (by first | omega | with_reducible assumption | (simp only [zb, zu, zw, zi, za]; omega) | (simp only [zs, zr, zm, za, zb, zu, zw, zi, zt, zd, zc, zn, *] <;> first | done | omega) | rfl) (by first | (with_reducible first | exact bys_one _ | exact u32s_one _ | exact u64s_one _ | exact i64s_one _ | exact n64s_one _ | assumption) | exact bys_one _ | exact u32s_one _ | exact u64s_one _ | exact i64s_one _ | exact one_all rfl | (refine app_one ?_ ?_ <;> first | exact bys_one _ | (simp; done))) (by first | omega | with_reducible assumption | (simp only [zb, zu, zw, zi, za]; omega) | (simp only [zs, zr, zm, za, zb, zu, zw, zi, zt, zd, zc, zn, *] <;> first | done | omega) | rfl) (by first | omega | with_reducible assumption | (simp only [zb, zu, zw, zi, za]; omega) | (simp only [zs, zr, zm, za, zb, zu, zw, zi, zt, zd, zc, zn, *] <;> first | done | omega) | rfl) rfl ?_
      intro A51 c51 hc51
      simp only [List.set_cons_zero, List.set_cons_succ, ← bys_append, ← u32s_append, ← u64s_append, ← i64s_append, List.nil_append, Nat.zero_add]
      refine vl_v (q_assign rfl) rfl ?_
      refine vl_nil ?_
      refine (th_n ?_)
      refine VC_seq ?_
      refine VC_seq ?_
      refine VC_rowBlk (by omega) ?_
      intro bW more eW
      subst eW
      refine VC_region ?_
      refine vl_v (q_assign rfl) rfl ?_
      refine vl_nil ?_
      refine (th_n ?_)
      refine VC_block ?_
      refine VC_loop (ι := Nat) (fun r => r ≤ 10) (fun r => [(6, vP b6 0), (7, .slice B 16 d), (10, .slice (some ⟨bW, 0, none⟩) 16 c51), (11, vN r)]) (fun r => [.blk bW 56 (u32s (rnd (beg k nn nu) r) ++ more), .row 56 1 (.slice B 16 d) 16 (u32s (beg k nn nu)), .blk b6 64 (bys (List.replicate 64 0))]) (fun r => 10 - r) 0 (by omega) (Sub.cons (s := 6) rfl (Sub.cons (s := 7) rfl (Sub.cons (s := 10) rfl (Sub.cons (s := 11) rfl (Sub.nil _))))) (fun w H => St.pick H (ks := [0, 1, 2]) (by decide) rfl) ?_
      rintro r hp
      have hr := (rnd_length (beg k nn nu) r).trans hv
      refine VC_seq ?_
      refine VC_seq ?_
      refine VC_region ?_
      refine vl_v (q_move rfl) rfl ?_
      first | (refine vl_v (q_lss_n (q := 10) Try.underlying3 rfl rfl) rfl ?_) | (refine vl_v (q_lss_k Try.underlying3 rfl rfl) rfl ?_)
      refine vl_nil ?_
      refine (th_n ?_)
      refine VC_cond rfl (fun ht53 => ?_) (fun ht53 => ?_)
      · skip
        have ht53 := of_decide_eq_true ht53
        refine VC_skip ?_
        refine (th_n ?_)
        refine VC_seq ?_
        refine VC_block ?_
        refine VC_seq ?_
        refine VC_region ?_
        refine vl_v (q_move rfl) rfl ?_
        refine l_callE Try.func76 rfl rfl rfl (fun w1 H1 => rquarter_calls _ 0 4 8 12 bW _ hr (by omega) (by omega) (by omega) (by omega) w1 H1) rfl ?_
        refine vl_nil ?_
        refine (th_n ?_)
        refine VC_seq ?_
        refine VC_region ?_
        refine vl_v (q_move rfl) rfl ?_
        refine l_callE Try.func76 rfl rfl rfl (fun w1 H1 => rquarter_calls _ 1 5 9 13 bW _ (by simp only [quarter_length]; exact hr) (by omega) (by omega) (by omega) (by omega) w1 H1) rfl ?_
        refine vl_nil ?_
        refine (th_n ?_)
        refine VC_seq ?_
        refine VC_region ?_
        refine vl_v (q_move rfl) rfl ?_
        refine l_callE Try.func76 rfl rfl rfl (fun w1 H1 => rquarter_calls _ 2 6 10 14 bW _ (by simp only [quarter_length]; exact hr) (by omega) (by omega) (by omega) (by omega) w1 H1) rfl ?_
        refine vl_nil ?_
        refine (th_n ?_)
        refine VC_seq ?_
        refine VC_region ?_
        refine vl_v (q_move rfl) rfl ?_
        refine l_callE Try.func76 rfl rfl rfl (fun w1 H1 => rquarter_calls _ 3 7 11 15 bW _ (by simp only [quarter_length]; exact hr) (by omega) (by omega) (by omega) (by omega) w1 H1) rfl ?_
        refine vl_nil ?_
        refine (th_n ?_)
        refine VC_seq ?_
        refine VC_region ?_
        refine vl_v (q_move rfl) rfl ?_
        refine l_callE Try.func76 rfl rfl rfl (fun w1 H1 => rquarter_calls _ 0 5 10 15 bW _ (by simp only [quarter_length]; exact hr) (by omega) (by omega) (by omega) (by omega) w1 H1) rfl ?_
        refine vl_nil ?_
        refine (th_n ?_)
        refine VC_seq ?_
        refine VC_region ?_
        refine vl_v (q_move rfl) rfl ?_
        refine l_callE Try.func76 rfl rfl rfl (fun w1 H1 => rquarter_calls _ 1 6 11 12 bW _ (by simp only [quarter_length]; exact hr) (by omega) (by omega) (by omega) (by omega) w1 H1) rfl ?_
        refine vl_nil ?_
        refine (th_n ?_)
        refine VC_seq ?_
        refine VC_region ?_
        refine vl_v (q_move rfl) rfl ?_
        refine l_callE Try.func76 rfl rfl rfl (fun w1 H1 => rquarter_calls _ 2 7 8 13 bW _ (by simp only [quarter_length]; exact hr) (by omega) (by omega) (by omega) (by omega) w1 H1) rfl ?_
        refine vl_nil ?_
        refine (th_n ?_)
        refine VC_region ?_
        refine vl_v (q_move rfl) rfl ?_
        refine l_callE Try.func76 rfl rfl rfl (fun w1 H1 => rquarter_calls _ 3 4 9 14 bW _ (by simp only [quarter_length]; exact hr) (by omega) (by omega) (by omega) (by omega) w1 H1) rfl ?_
        refine vl_nil ?_
        refine (bl_n (th_n ?_))
        refine VC_region ?_
        refine vl_v (q_move rfl) rfl ?_
        first | (refine vl_v (q_add_n (q := 1) rfl rfl (by omega)) rfl ?_) | (refine vl_v (q_add_i rfl rfl (by omega) (by omega)) rfl ?_)
        refine vl_v (q_assign rfl) rfl ?_
        refine vl_nil ?_
        refine (th_n ?_)
        refine ⟨r + 1, by omega, by omega, (Sub.cons (s := 6) rfl (Sub.cons (s := 7) rfl (Sub.cons (s := 10) rfl (Sub.cons (s := 11) rfl (Sub.nil _))))), fun w H => H⟩
      · skip
        have ht53 := of_decide_eq_false ht53
        obtain rfl : r = 10 := by omega
        refine VC_exit ?_
        refine (th_x (th_x (bl_xs (th_n ?_))))
        refine VC_seq ?_
        refine VC_region ?_
        refine l_allocA zr64 rfl ?_
        intro b12
        refine vl_nil ?_
        refine (th_n ?_)
        refine VC_seq ?_
        refine VC_seq ?_
        refine VC_region ?_
        refine vl_v (q_assign rfl) rfl ?_
        refine vl_nil ?_
        refine (th_n ?_)
        refine VC_block ?_
        refine VC_loop (ι := Nat) (fun s => s ≤ 64) (fun s => [(6, vP b6 0), (7, .slice B 16 d), (10, .slice (some ⟨bW, 0, none⟩) 16 c51), (12, vP b12 0), (13, vN s)]) (fun s => [.blk b12 64 (bys (roP (beg k nn nu) (rnd (beg k nn nu) 10) s)), .blk bW 56 (u32s (rnd (beg k nn nu) 10) ++ more), .row 56 1 (.slice B 16 d) 16 (u32s (beg k nn nu)), .blk b6 64 (bys (List.replicate 64 0))]) (fun s => 64 - s) 0 (by omega) (Sub.cons (s := 6) rfl (Sub.cons (s := 7) rfl (Sub.cons (s := 10) rfl (Sub.cons (s := 12) rfl (Sub.cons (s := 13) rfl (Sub.nil _)))))) (fun w H => H) ?_
        rintro s hp
        have hro := roP_length (beg k nn nu) (rnd (beg k nn nu) 10) s
        refine VC_seq ?_
        refine VC_seq ?_
        refine VC_region ?_
        refine vl_v (q_move rfl) rfl ?_
        first | (refine vl_v (q_lss_n (q := 64) Try.underlying3 rfl rfl) rfl ?_) | (refine vl_v (q_lss_k Try.underlying3 rfl rfl) rfl ?_)
        refine vl_nil ?_
        refine (th_n ?_)
        refine VC_cond rfl (fun ht73 => ?_) (fun ht73 => ?_)
        · skip
          have ht73 := of_decide_eq_true ht73
          refine VC_skip ?_
          refine (th_n ?_)
          refine VC_seq ?_
          refine VC_block ?_
          refine VC_drawV 17 [[], [], [], [2], [1, 3], [4], [], [], [7], [6, 8], [9], [5, 10], [], [12], [13], [11, 14], [15], [0, 1, 2, 3, 4, 5, 6, 7, 8, 9, 10, 11, 12, 13, 14, 15, 16], [17, 16, 0, 1, 2, 3, 4, 5, 6, 7, 8, 9, 10, 11, 12, 13, 14, 15]] [[], [], [], [2], [1, 2, 3], [1, 2, 3, 4], [], [], [7], [6, 7, 8], [6, 7, 8, 9], [1, 2, 3, 4, 5, 6, 7, 8, 9, 10], [], [12], [12, 13], [1, 2, 3, 4, 5, 6, 7, 8, 9, 10, 11, 12, 13, 14], [1, 2, 3, 4, 5, 6, 7, 8, 9, 10, 11, 12, 13, 14, 15], [0, 1, 2, 3, 4, 5, 6, 7, 8, 9, 10, 11, 12, 13, 14, 15, 16], [0, 1, 2, 3, 4, 5, 6, 7, 8, 9, 10, 11, 12, 13, 14, 15, 16, 17]] rfl (by kernel_rfl) ?_
          refine qv_v (q_move rfl) ?_
          refine qv_v (q_move rfl) ?_
          refine qv_v (q_move rfl) ?_
          refine qv_v (q_quo_n (q := 4) rfl rfl (by omega) (by omega)) ?_
          refine qv_v (q_idxRd Try.underlying82 sz56 rfl rfl (by first | omega | with_reducible assumption | (simp only [zb, zu, zw, zi, za]; omega) | (simp only [zs, zr, zm, za, zb, zu, zw, zi, zt, zd, zc, zn, *] <;> first | done | omega) | rfl) (Reads.row 2 rfl) (by first | omega | with_reducible assumption | (simp only [zb, zu, zw, zi, za]; omega) | (simp only [zs, zr, zm, za, zb, zu, zw, zi, zt, zd, zc, zn, *] <;> first | done | omega) | rfl)) ?_
          refine qv_v (q_loadRd Try.underlying56 rfl rfl (Reads.row 2 rfl) (u32s_at (by first | omega | with_reducible assumption | (simp only [zb, zu, zw, zi, za]; omega) | (simp only [zs, zr, zm, za, zb, zu, zw, zi, zt, zd, zc, zn, *] <;> first | done | omega) | rfl))) ?_
          refine qv_v (q_move rfl) ?_
          refine qv_v (q_move rfl) ?_
          refine qv_v (q_quo_n (q := 4) rfl rfl (by omega) (by omega)) ?_
          refine qv_v (q_idxS0 Try.underlying82 sz56 rfl rfl (by omega) (by rw [Nat.mul_one, Nat.zero_add])) ?_
          first | (refine qv_v (q_load 1 Try.underlying56 rfl rfl rfl (u32s_atA (by first | omega | with_reducible assumption | (simp only [zb, zu, zw, zi, za]; omega) | (simp only [zs, zr, zm, za, zb, zu, zw, zi, zt, zd, zc, zn, *] <;> first | done | omega) | rfl))) ?_) | (refine qv_v (q_load 1 Try.underlying56 rfl rfl rfl rfl) ?_)
          refine qv_v (q_add_u32 rfl rfl) ?_
          refine qv_v (q_move rfl) ?_
          refine qv_v (q_rem_n (q := 4) rfl rfl (by omega)) ?_
          first | (refine qv_v (q_mul_n (p := 8) rfl rfl (by omega)) ?_) | (refine qv_v (q_mul_i rfl rfl (by omega) (by omega)) ?_)
          refine qv_v (q_shr_u32 rfl rfl) ?_
          refine qv_v (q_conv_nu8 Try.underlying56 Try.underlying5 rfl) ?_
          refine qv_end ?_
          refine VL.keep (Sub.cons (s := 6) rfl (Sub.cons (s := 7) rfl (Sub.cons (s := 10) rfl (Sub.cons (s := 12) rfl (Sub.cons (s := 13) rfl (Sub.cons (s := 73) rfl (Sub.cons (s := 76) rfl (Sub.cons (s := 92) rfl (Sub.nil _))))))))) ?_
          first | (refine vl_v (q_idxA Try.underlying64 sz5 rfl rfl (by omega) (r := _) (by rw [Nat.mul_one, Nat.zero_add])) rfl ?_) | (refine vl_v (q_idxA Try.underlying64 sz5 rfl rfl (by omega) rfl) rfl ?_)
          first | (refine l_stB 0 rfl rfl rfl sz5 (by first | omega | with_reducible assumption | (simp only [zb, zu, zw, zi, za]; omega) | (simp only [zs, zr, zm, za, zb, zu, zw, zi, zt, zd, zc, zn, *] <;> first | done | omega) | rfl) ?_) | (refine l_store1 0 rfl rfl rfl sz5 rfl (by first | decide | simp) ?_)
          simp only [List.set_cons_zero, List.set_cons_succ]
          refine vl_nil ?_
          refine (qn_n (bl_n (th_n ?_)))
          refine VC_region ?_
          refine vl_v (q_move rfl) rfl ?_
          first | (refine vl_v (q_add_n (q := 1) rfl rfl (by omega)) rfl ?_) | (refine vl_v (q_add_i rfl rfl (by omega) (by omega)) rfl ?_)
          refine vl_v (q_assign rfl) rfl ?_
          refine vl_nil ?_
          refine (th_n ?_)
          refine ⟨s + 1, by omega, by omega, (Sub.cons (s := 6) rfl (Sub.cons (s := 7) rfl (Sub.cons (s := 10) rfl (Sub.cons (s := 12) rfl (Sub.cons (s := 13) rfl (Sub.nil _)))))), fun w H => H⟩
        · skip
          have ht73 := of_decide_eq_false ht73
          obtain rfl : s = 64 := by omega
          rw [roP_block]
          have hbk := block_length k nn nu
          refine VC_exit ?_
          refine (th_x (th_x (bl_xs (th_n ?_))))
          refine VC_seq ?_
          refine VC_region ?_
          first | (refine vl_v (q_loads 0 Try.underlying64 rfl rfl rfl sz64 (by first | omega | with_reducible assumption | (simp only [zb, zu, zw, zi, za]; omega) | (simp only [zs, zr, zm, za, zb, zu, zw, zi, zt, zd, zc, zn, *] <;> first | done | omega) | rfl)) rfl ?_) | (refine vl_v (q_loadsAt 0 Try.underlying64 rfl rfl rfl sz64 (by rfl) (by first | omega | with_reducible assumption | (simp only [zb, zu, zw, zi, za]; omega) | (simp only [zs, zr, zm, za, zb, zu, zw, zi, zt, zd, zc, zn, *] <;> first | done | omega) | rfl)) rfl ?_)
          refine l_storeA 3 rfl rfl rfl sz64 (by first | omega | with_reducible assumption | (simp only [zb, zu, zw, zi, za]; omega) | (simp only [zs, zr, zm, za, zb, zu, zw, zi, zt, zd, zc, zn, *] <;> first | done | omega) | rfl) (by first | (with_reducible first | exact bys_one _ | exact u32s_one _ | exact u64s_one _ | exact i64s_one _ | exact n64s_one _ | assumption) | exact bys_one _ | exact u32s_one _ | exact u64s_one _ | exact i64s_one _ | exact one_all rfl | (refine app_one ?_ ?_ <;> first | exact bys_one _ | (simp; done))) (by first | omega | with_reducible assumption | (simp only [zb, zu, zw, zi, za]; omega) | (simp only [zs, zr, zm, za, zb, zu, zw, zi, zt, zd, zc, zn, *] <;> first | done | omega) | rfl) ?_
          simp only [List.set_cons_zero, List.set_cons_succ]
          refine vl_nil ?_
          refine (th_n ?_)
          refine VC_ret ?_
          refine ⟨_, resC1 3 rfl Try.underlying64 rfl rfl rfl sz64 (by first | omega | with_reducible assumption | (simp only [zb, zu, zw, zi, za]; omega) | (simp only [zs, zr, zm, za, zb, zu, zw, zi, zt, zd, zc, zn, *] <;> first | done | omega) | rfl), ?_⟩
          exact rfl
end Go.Proofs.Ytkadnmoephkklaa
namespace Go.Proofs.Ytkadnmoephkklaa
open Go.RowKit Go.PBYtkadnmoephkklaa
set_option linter.unusedVariables false
set_option linter.unusedSimpArgs false
set_option maxRecDepth 10000

set_option maxHeartbeats 2000000 in
theorem rturn_calls (k nn : List UInt8) (nu : UInt32) (b : List UInt8) (A : Option Addr) (c : Nat) (hk : k.length = 32) (hn : nn.length = 12) (w : World) (hA : SlAt w A (bys b)) (hc : b.length ≤ c) (hb : b.length ≤ 100000) :
    Calls Try.prog 57 #[.agg (bys k).toArray, .agg (bys nn).toArray, vU32 nu, .slice A b.length c] w fun e w' => ∃ v, e = .returned v ∧ St [] w [.row 5 1 v b.length (bys (turnB k nn nu b))] w' := by
  refine enter (n := 42) (R := fun e L => ∃ v M, e = .returned v ∧ L = .row 5 1 v b.length (bys (turnB k nn nu b)) :: M) [.agg (bys k).toArray, .agg (bys nn).toArray, vU32 nu, .slice A b.length c] Try.func57 rfl rfl rfl (St.refl w) ?_ endRow
  refine VC_seq ?_
  refine VC_region ?_
  refine l_boxA rfl rfl ?_
  intro b4
  refine l_boxA rfl rfl ?_
  intro b5
  refine vl_v (q_assign rfl) rfl ?_
  refine vl_nil ?_
  refine (th_n ?_)
  refine VC_seq ?_
  refine VC_region ?_
  refine vl_v (q_assign rfl) rfl ?_
  refine vl_nil ?_
  refine (th_n ?_)
  refine VC_seq ?_
  refine VC_region ?_
  refine l_allocA zr64 rfl ?_
  intro b10
  refine vl_nil ?_
  refine (th_n ?_)
  refine VC_seq ?_
  refine VC_seq ?_
  refine VC_nilRow 5 1 ?_
  refine VC_region ?_
  refine vl_v (q_assign rfl) rfl ?_
  refine vl_nil ?_
  refine (th_n ?_)
  refine VC_block ?_
  refine VC_loop (ι := Nat × List UInt8 × Option Addr × Nat) (fun q => q.1 ≤ b.length ∧ q.2.1.length = 64 ∧ (q.1 % 64 ≠ 0 → q.2.1 = ks k nn nu (q.1 / 64))) (fun q => [(2, vU32 nu), (3, .slice A b.length c), (4, vP b4 0), (5, vP b5 0), (9, .slice q.2.2.1 q.1 q.2.2.2), (10, vP b10 0), (11, vN q.1)]) (fun q => [.row 5 1 (.slice q.2.2.1 q.1 q.2.2.2) q.1 (bys (tb (ks k nn nu) b q.1)), .blk b10 64 (bys q.2.1), .blk b5 90 (bys nn), .blk b4 23 (bys k)]) (fun q => b.length - q.1) (0, List.replicate 64 0, none, 0) (⟨Nat.zero_le _, rfl, fun h => absurd rfl h⟩) (Sub.cons (s := 2) rfl (Sub.cons (s := 3) rfl (Sub.cons (s := 4) rfl (Sub.cons (s := 5) rfl (Sub.cons (s := 9) rfl (Sub.cons (s := 10) rfl (Sub.cons (s := 11) rfl (Sub.nil _)))))))) (fun w H => H) ?_
  rintro ⟨i, X, B, d⟩ hp
  obtain ⟨hi, hX, hXe⟩ := hp
  simp only at hi hX hXe
  have hbl := ks_length k nn nu (i / 64)
  refine VC_seq ?_
  refine VC_seq ?_
  refine VC_region ?_
  refine vl_v (q_move rfl) rfl ?_
  refine vl_v (q_move rfl) rfl ?_
  refine vl_v (q_lenS Try.underlying24 rfl) rfl ?_
  first | (refine vl_v (q_lss_n Try.underlying3 rfl rfl) rfl ?_) | (refine vl_v (q_lss_k Try.underlying3 rfl rfl) rfl ?_)
  refine vl_nil ?_
  refine (th_n ?_)
  refine VC_cond rfl (fun ht15 => ?_) (fun ht15 => ?_)
  · skip
    have ht15 := of_decide_eq_true ht15
    simp only at ht15
    refine VC_skip ?_
    refine (th_n ?_)
    refine VC_seq ?_
    refine VC_block ?_
    refine VC_seq ?_
    refine VC_seq ?_
    refine VC_region ?_
    refine vl_v (q_move rfl) rfl ?_
    refine vl_v (q_rem_n (q := 64) rfl rfl (by omega)) rfl ?_
    first | (refine vl_v (q_eql_n (q := 0) Try.underlying3 rfl rfl) rfl ?_) | (refine vl_v (q_eql_k Try.underlying3 rfl rfl) rfl ?_)
    refine vl_nil ?_
    refine (th_n ?_)
    refine VC_cond rfl (fun ht20 => ?_) (fun ht20 => ?_)
    · skip
      have ht20 := of_decide_eq_true ht20
      refine VC_region ?_
      have hbk := block_length k nn (nu + UInt32.ofNat (i / 64))
      first | (refine vl_v (q_loads 3 Try.underlying23 rfl rfl rfl sz23 (by first | omega | with_reducible assumption | (simp only [zb, zu, zw, zi, za]; omega) | (simp only [zs, zr, zm, za, zb, zu, zw, zi, zt, zd, zc, zn, *] <;> first | done | omega) | rfl)) rfl ?_) | (refine vl_v (q_loadsAt 3 Try.underlying23 rfl rfl rfl sz23 (by rfl) (by first | omega | with_reducible assumption | (simp only [zb, zu, zw, zi, za]; omega) | (simp only [zs, zr, zm, za, zb, zu, zw, zi, zt, zd, zc, zn, *] <;> first | done | omega) | rfl)) rfl ?_)
      first | (refine vl_v (q_loads 2 Try.underlying90 rfl rfl rfl sz90 (by first | omega | with_reducible assumption | (simp only [zb, zu, zw, zi, za]; omega) | (simp only [zs, zr, zm, za, zb, zu, zw, zi, zt, zd, zc, zn, *] <;> first | done | omega) | rfl)) rfl ?_) | (refine vl_v (q_loadsAt 2 Try.underlying90 rfl rfl rfl sz90 (by rfl) (by first | omega | with_reducible assumption | (simp only [zb, zu, zw, zi, za]; omega) | (simp only [zs, zr, zm, za, zb, zu, zw, zi, zt, zd, zc, zn, *] <;> first | done | omega) | rfl)) rfl ?_)
      refine vl_v (q_move rfl) rfl ?_
      refine vl_v (q_move rfl) rfl ?_
      refine vl_v (q_quo_n (q := 64) rfl rfl (by omega) (by omega)) rfl ?_
      refine vl_v (q_conv_nu32 Try.underlying3 Try.underlying56 rfl) rfl ?_
      refine vl_v (q_add_u32 rfl rfl) rfl ?_
      refine vl_v (q_callV Try.func68 rfl rfl rfl (fun w1 H1 => rblock_calls k nn (nu + UInt32.ofNat (i / 64)) hk hn w1)) rfl ?_
      refine l_storeA 1 rfl rfl rfl sz64 (by first | omega | with_reducible assumption | (simp only [zb, zu, zw, zi, za]; omega) | (simp only [zs, zr, zm, za, zb, zu, zw, zi, zt, zd, zc, zn, *] <;> first | done | omega) | rfl) (by first | (with_reducible first | exact bys_one _ | exact u32s_one _ | exact u64s_one _ | exact i64s_one _ | exact n64s_one _ | assumption) | exact bys_one _ | exact u32s_one _ | exact u64s_one _ | exact i64s_one _ | exact one_all rfl | (refine app_one ?_ ?_ <;> first | exact bys_one _ | (simp; done))) (by first | omega | with_reducible assumption | (simp only [zb, zu, zw, zi, za]; omega) | (simp only [zs, zr, zm, za, zb, zu, zw, zi, zt, zd, zc, zn, *] <;> first | done | omega) | rfl) ?_
      simp only [List.set_cons_zero, List.set_cons_succ]
      refine vl_nil ?_
      refine (th_n ?_)
      refine VC_drawM 11 [[], [], [], [1, 2], [3], [], [5], [6], [7], [4, 8], [9], [0, 10], [11, 0, 1, 2, 3, 4, 5, 6, 7, 8, 9, 10]] [[], [], [], [1, 2], [1, 2, 3], [], [5], [5, 6], [5, 6, 7], [1, 2, 3, 4, 5, 6, 7, 8], [1, 2, 3, 4, 5, 6, 7, 8, 9], [0, 1, 2, 3, 4, 5, 6, 7, 8, 9, 10], [0, 1, 2, 3, 4, 5, 6, 7, 8, 9, 10, 11]] rfl (by kernel_rfl) ?_
      refine qm_v (fun xs hx => q_move rfl) ?_
      refine qm_v (fun xs hx => q_move rfl) ?_
      refine qm_v (fun xs hx => q_move rfl) ?_
      refine qm_v (fun xs hx => q_idxRd Try.underlying24 sz5 rfl rfl (by first | omega | with_reducible assumption | (simp only [zb, zu, zw, zi, za]; omega) | (simp only [zs, zr, zm, za, zb, zu, zw, zi, zt, zd, zc, zn, *] <;> first | done | omega) | rfl) (Reads.old hA) (by first | omega | with_reducible assumption | (simp only [zb, zu, zw, zi, za]; omega) | (simp only [zs, zr, zm, za, zb, zu, zw, zi, zt, zd, zc, zn, *] <;> first | done | omega) | rfl)) ?_
      refine qm_v (fun xs hx => q_loadRd Try.underlying5 rfl rfl (Reads.old hA) (bys_at (by first | omega | with_reducible assumption | (simp only [zb, zu, zw, zi, za]; omega) | (simp only [zs, zr, zm, za, zb, zu, zw, zi, zt, zd, zc, zn, *] <;> first | done | omega) | rfl))) ?_
      refine qm_v (fun xs hx => q_move rfl) ?_
      refine qm_v (fun xs hx => q_rem_n (q := 64) rfl rfl (by omega)) ?_
      first | (refine qm_v (fun xs hx => q_idxA Try.underlying64 sz5 rfl rfl (by omega) (r := _) (by rw [Nat.mul_one, Nat.zero_add])) ?_) | (refine qm_v (fun xs hx => q_idxA Try.underlying64 sz5 rfl rfl (by omega) rfl) ?_)
      first | (refine qm_v (fun xs hx => q_load 1 Try.underlying5 rfl rfl rfl (bys_at (by first | omega | with_reducible assumption | (simp only [zb, zu, zw, zi, za]; omega) | (simp only [zs, zr, zm, za, zb, zu, zw, zi, zt, zd, zc, zn, *] <;> first | done | omega) | rfl))) ?_) | (refine qm_v (fun xs hx => q_load 1 Try.underlying5 rfl rfl rfl rfl) ?_)
      refine qm_v (fun xs hx => q_xor_u8 rfl rfl) ?_
      refine qm_a (fun xs hx => q_litA (cs := bys [_]) Try.underlying24 in5 (by decide) rfl rfl rfl rfl (by first | (with_reducible first | exact bys_one _ | exact u32s_one _ | exact u64s_one _ | exact i64s_one _ | exact n64s_one _ | assumption) | exact bys_one _ | exact u32s_one _ | exact u64s_one _ | exact i64s_one _ | exact one_all rfl | (refine app_one ?_ ?_ <;> first | exact bys_one _ | (simp; done))) rfl) ?_
      refine qm_end ?_
      intro xs hx
      obtain ⟨⟨b39, e39⟩, _⟩ := hx
      simp only [e39]
      simp only [resT, nRow, nBlk, nRowT, tupAt_0, List.append_assoc, List.nil_append, List.append_nil, List.cons_append, List.singleton_append, e39]
      refine VL.keep (Sub.cons (s := 2) rfl (Sub.cons (s := 3) rfl (Sub.cons (s := 4) rfl (Sub.cons (s := 5) rfl (Sub.cons (s := 9) rfl (Sub.cons (s := 10) rfl (Sub.cons (s := 11) rfl (Sub.cons (s := 15) rfl (Sub.cons (s := 20) rfl (Sub.cons (s := 29) rfl (Sub.cons (s := 39) rfl (Sub.nil _)))))))))))) ?_
      refine l_append 1 rfl rfl rfl Try.underlying24 Try.underlying24 in5 rfl (by decide) (Reads.row 0 rfl) (by first | omega | with_reducible assumption | (simp only [zb, zu, zw, zi, za]; omega) | (simp only [zs, zr, zm, za, zb, zu, zw, zi, zt, zd, zc, zn, *] <;> first | done | omega) | rfl) (by first | (with_reducible first | exact bys_one _ | exact u32s_one _ | exact u64s_one _ | exact i64s_one _ | exact n64s_one _ | assumption) | exact bys_one _ | exact u32s_one _ | exact u64s_one _ | exact i64s_one _ | exact one_all rfl | (refine app_one ?_ ?_ <;> first | exact bys_one _ | (simp; done))) (by first | omega | with_reducible assumption | (simp only [zb, zu, zw, zi, za]; omega) | (simp only [zs, zr, zm, za, zb, zu, zw, zi, zt, zd, zc, zn, *] <;> first | done | omega) | rfl) (by first | omega | with_reducible assumption | (simp only [zb, zu, zw, zi, za]; omega) | (simp only [zs, zr, zm, za, zb, zu, zw, zi, zt, zd, zc, zn, *] <;> first | done | omega) | rfl) rfl ?_
      intro A40 c40 hc40
      simp only [List.set_cons_zero, List.set_cons_succ, ← bys_append, ← u32s_append, ← u64s_append, ← i64s_append, List.nil_append, Nat.zero_add]
      refine vl_v (q_assign rfl) rfl ?_
      refine vl_nil ?_
      refine (qn_n (bl_n (th_n ?_)))
      refine VC_region ?_
      refine vl_v (q_move rfl) rfl ?_
      first | (refine vl_v (q_add_n (q := 1) rfl rfl (by omega)) rfl ?_) | (refine vl_v (q_add_i rfl rfl (by omega) (by omega)) rfl ?_)
      refine vl_v (q_assign rfl) rfl ?_
      refine vl_nil ?_
      refine (th_n ?_)
      refine ⟨(i + 1, ks k nn nu (i / 64), A40, c40), ⟨by simp only; omega, hbl, fun h => by simp only at h ⊢; rw [show (i + 1) / 64 = i / 64 by omega]⟩, by simp only; omega, (Sub.cons (s := 2) rfl (Sub.cons (s := 3) rfl (Sub.cons (s := 4) rfl (Sub.cons (s := 5) rfl (Sub.cons (s := 9) rfl (Sub.cons (s := 10) rfl (Sub.cons (s := 11) rfl (Sub.nil _)))))))), fun w' H => by show St [] w [.row 5 1 (.slice A40 (i + 1) c40) (i + 1) (bys (tb (ks k nn nu) b (i + 1))), .blk b10 64 (bys (ks k nn nu (i / 64))), .blk b5 90 (bys nn), .blk b4 23 (bys k)] w'; rw [← tb_step (ks k nn nu) b i]; exact H.pick (ks := [1, 2, 3, 4]) (by decide) rfl⟩
    · skip
      have ht20 := of_decide_eq_false ht20
      simp only at ht20
      obtain rfl := hXe ht20
      refine VC_skip ?_
      refine (th_n ?_)
      refine VC_drawM 11 [[], [], [], [1, 2], [3], [], [5], [6], [7], [4, 8], [9], [0, 10], [11, 0, 1, 2, 3, 4, 5, 6, 7, 8, 9, 10]] [[], [], [], [1, 2], [1, 2, 3], [], [5], [5, 6], [5, 6, 7], [1, 2, 3, 4, 5, 6, 7, 8], [1, 2, 3, 4, 5, 6, 7, 8, 9], [0, 1, 2, 3, 4, 5, 6, 7, 8, 9, 10], [0, 1, 2, 3, 4, 5, 6, 7, 8, 9, 10, 11]] rfl (by kernel_rfl) ?_
      refine qm_v (fun xs hx => q_move rfl) ?_
      refine qm_v (fun xs hx => q_move rfl) ?_
      refine qm_v (fun xs hx => q_move rfl) ?_
      refine qm_v (fun xs hx => q_idxRd Try.underlying24 sz5 rfl rfl (by first | omega | with_reducible assumption | (simp only [zb, zu, zw, zi, za]; omega) | (simp only [zs, zr, zm, za, zb, zu, zw, zi, zt, zd, zc, zn, *] <;> first | done | omega) | rfl) (Reads.old hA) (by first | omega | with_reducible assumption | (simp only [zb, zu, zw, zi, za]; omega) | (simp only [zs, zr, zm, za, zb, zu, zw, zi, zt, zd, zc, zn, *] <;> first | done | omega) | rfl)) ?_
      refine qm_v (fun xs hx => q_loadRd Try.underlying5 rfl rfl (Reads.old hA) (bys_at (by first | omega | with_reducible assumption | (simp only [zb, zu, zw, zi, za]; omega) | (simp only [zs, zr, zm, za, zb, zu, zw, zi, zt, zd, zc, zn, *] <;> first | done | omega) | rfl))) ?_
      refine qm_v (fun xs hx => q_move rfl) ?_
      refine qm_v (fun xs hx => q_rem_n (q := 64) rfl rfl (by omega)) ?_
      first | (refine qm_v (fun xs hx => q_idxA Try.underlying64 sz5 rfl rfl (by omega) (r := _) (by rw [Nat.mul_one, Nat.zero_add])) ?_) | (refine qm_v (fun xs hx => q_idxA Try.underlying64 sz5 rfl rfl (by omega) rfl) ?_)
      first | (refine qm_v (fun xs hx => q_load 1 Try.underlying5 rfl rfl rfl (bys_at (by first | omega | with_reducible assumption | (simp only [zb, zu, zw, zi, za]; omega) | (simp only [zs, zr, zm, za, zb, zu, zw, zi, zt, zd, zc, zn, *] <;> first | done | omega) | rfl))) ?_) | (refine qm_v (fun xs hx => q_load 1 Try.underlying5 rfl rfl rfl rfl) ?_)
      refine qm_v (fun xs hx => q_xor_u8 rfl rfl) ?_
      refine qm_a (fun xs hx => q_litA (cs := bys [_]) Try.underlying24 in5 (by decide) rfl rfl rfl rfl (by first | (with_reducible first | exact bys_one _ | exact u32s_one _ | exact u64s_one _ | exact i64s_one _ | exact n64s_one _ | assumption) | exact bys_one _ | exact u32s_one _ | exact u64s_one _ | exact i64s_one _ | exact one_all rfl | (refine app_one ?_ ?_ <;> first | exact bys_one _ | (simp; done))) rfl) ?_
      refine qm_end ?_
      intro xs hx
      obtain ⟨⟨b39, e39⟩, _⟩ := hx
      simp only [e39]
      simp only [resT, nRow, nBlk, nRowT, tupAt_0, List.append_assoc, List.nil_append, List.append_nil, List.cons_append, List.singleton_append, e39]
      refine VL.keep (Sub.cons (s := 2) rfl (Sub.cons (s := 3) rfl (Sub.cons (s := 4) rfl (Sub.cons (s := 5) rfl (Sub.cons (s := 9) rfl (Sub.cons (s := 10) rfl (Sub.cons (s := 11) rfl (Sub.cons (s := 15) rfl (Sub.cons (s := 20) rfl (Sub.cons (s := 29) rfl (Sub.cons (s := 39) rfl (Sub.nil _)))))))))))) ?_
      refine l_append 1 rfl rfl rfl Try.underlying24 Try.underlying24 in5 rfl (by decide) (Reads.row 0 rfl) (by first | omega | with_reducible assumption | (simp only [zb, zu, zw, zi, za]; omega) | (simp only [zs, zr, zm, za, zb, zu, zw, zi, zt, zd, zc, zn, *] <;> first | done | omega) | rfl) (by first | (with_reducible first | exact bys_one _ | exact u32s_one _ | exact u64s_one _ | exact i64s_one _ | exact n64s_one _ | assumption) | exact bys_one _ | exact u32s_one _ | exact u64s_one _ | exact i64s_one _ | exact one_all rfl | (refine app_one ?_ ?_ <;> first | exact bys_one _ | (simp; done))) (by first | omega | with_reducible assumption | (simp only [zb, zu, zw, zi, za]; omega) | (simp only [zs, zr, zm, za, zb, zu, zw, zi, zt, zd, zc, zn, *] <;> first | done | omega) | rfl) (by first | omega | with_reducible assumption | (simp only [zb, zu, zw, zi, za]; omega) | (simp only [zs, zr, zm, za, zb, zu, zw, zi, zt, zd, zc, zn, *] <;> first | done | omega) | rfl) rfl ?_
      intro A40 c40 hc40
      simp only [List.set_cons_zero, List.set_cons_succ, ← bys_append, ← u32s_append, ← u64s_append, ← i64s_append, List.nil_append, Nat.zero_add]
      refine vl_v (q_assign rfl) rfl ?_
      refine vl_nil ?_
      refine (qn_n (bl_n (th_n ?_)))
      refine VC_region ?_
      refine vl_v (q_move rfl) rfl ?_
      first | (refine vl_v (q_add_n (q := 1) rfl rfl (by omega)) rfl ?_) | (refine vl_v (q_add_i rfl rfl (by omega) (by omega)) rfl ?_)
      refine vl_v (q_assign rfl) rfl ?_
      refine vl_nil ?_
      refine (th_n ?_)
      refine ⟨(i + 1, ks k nn nu (i / 64), A40, c40), ⟨by simp only; omega, hbl, fun h => by simp only at h ⊢; rw [show (i + 1) / 64 = i / 64 by omega]⟩, by simp only; omega, (Sub.cons (s := 2) rfl (Sub.cons (s := 3) rfl (Sub.cons (s := 4) rfl (Sub.cons (s := 5) rfl (Sub.cons (s := 9) rfl (Sub.cons (s := 10) rfl (Sub.cons (s := 11) rfl (Sub.nil _)))))))), fun w' H => by show St [] w [.row 5 1 (.slice A40 (i + 1) c40) (i + 1) (bys (tb (ks k nn nu) b (i + 1))), .blk b10 64 (bys (ks k nn nu (i / 64))), .blk b5 90 (bys nn), .blk b4 23 (bys k)] w'; rw [← tb_step (ks k nn nu) b i]; exact H.pick (ks := [1, 2, 3, 4]) (by decide) rfl⟩
  · skip
    have ht15 := of_decide_eq_false ht15
    simp only at ht15
    obtain rfl : i = b.length := by omega
    refine VC_exit ?_
    refine (th_x (th_x (bl_xs (th_n ?_))))
    refine VC_seq ?_
    refine VC_region ?_
    refine vl_v (q_move rfl) rfl ?_
    refine vl_v (q_assign rfl) rfl ?_
    refine vl_nil ?_
    refine (th_n ?_)
    refine VC_ret ?_
    refine ⟨_, res1 rfl rfl, ?_⟩
    exact ⟨_, [.blk b10 64 (bys X), .blk b5 90 (bys nn), .blk b4 23 (bys k)], rfl, rfl⟩
end Go.Proofs.Ytkadnmoephkklaa
