/- Words and laws that the proofs of this seat share, part 3 of 8. No condition. -/
import Derived.Test.YtabmfndiepmcgaaQ09b
section
namespace Go.Proofs.Ytabmfndiepmcgaa
open Go.RowKit Go.PBYtabmfndiepmcgaa
set_option linter.unusedVariables false
set_option linter.unusedSimpArgs false
set_option maxRecDepth 10000
theorem rot_calls (x : UInt32) (k : Int) (r : Int) (m : Nat) (hr : IntKind.u64.wrap k = r) (hm : IntKind.u64.wrap ((BitVec.ofInt IntKind.u64.bits r &&& BitVec.ofInt IntKind.u64.bits 31).toNat : Int) = (m : Int)) (h31 : m < 32) (w : World) :
    Calls Try.prog 69 #[vU32 x, vI k] w fun e w' => e = .returned (vU32 (rotl x m)) ∧ Kept [] w w' := by
  refine enter (n := 17) (R := fun e L => e = .returned (vU32 (rotl x m))) [vU32 x, vI k] Try.func69 rfl rfl rfl (St.refl w) ?_ (fun e w' L' h H => ⟨h, H.kept⟩)
  refine VC_seq ?_
  refine VC_region ?_
  refine vl_v (q_assign rfl) rfl ?_
  refine vl_nil ?_
  refine (th_n ?_)
  refine VC_seq ?_
  refine VC_region ?_
  refine vl_v (q_move rfl) rfl ?_
  refine vl_v (q_conv_k Try.underlying3 Try.underlying87 rfl hr) rfl ?_
  refine vl_v (q_and_k rfl rfl hm) rfl ?_
  refine vl_v (q_assign rfl) rfl ?_
  refine vl_nil ?_
  refine (th_n ?_)
  refine VC_seq ?_
  refine VC_region ?_
  refine vl_v (q_move rfl) rfl ?_
  refine vl_v (q_move rfl) rfl ?_
  refine vl_v (q_shl_u32 rfl rfl) rfl ?_
  refine vl_v (q_move rfl) rfl ?_
  refine vl_v (q_move rfl) rfl ?_
  refine vl_v (q_sub_k rfl rfl (r := ((32 - m : Nat) : Int)) (by rw [IntKind.wrap_u64]; omega)) rfl ?_
  refine vl_v (q_shr_u32 rfl rfl) rfl ?_
  refine vl_v (q_or_u32 rfl rfl) rfl ?_
  refine vl_v (q_assign rfl) rfl ?_
  refine vl_nil ?_
  refine (th_n ?_)
  refine VC_ret ?_
  refine ⟨_, res1 rfl rfl, ?_⟩
  exact rfl
set_option maxHeartbeats 1000000 in
theorem mix_calls {S : List Nat} {w0 : World} {R : List Res} (l : List UInt32) (ia ib ic id : Nat) (x y : UInt32) (bl : Nat) (hl : l.length = 16) (h1 : ia < 16) (h2 : ib < 16) (h3 : ic < 16) (h4 : id < 16) (w : World) (H : St S w0 (.blk bl 103 (u32s l) :: R) w) :
    Calls Try.prog 66 #[vP bl ia, vP bl ib, vP bl ic, vP bl id, vU32 x, vU32 y] w fun e w' => e = .returned (.tuple #[]) ∧ St S w0 (.blk bl 103 (u32s (mixL l ia ib ic id x y)) :: R) w' := by
  refine enter (n := 88) (R := fun e L => e = .returned (.tuple #[]) ∧ L = .blk bl 103 (u32s (mixL l ia ib ic id x y)) :: R) [vP bl ia, vP bl ib, vP bl ic, vP bl id, vU32 x, vU32 y] Try.func66 rfl rfl rfl H ?_ (fun e w' L' h H => ⟨h.1, h.2 ▸ H⟩)
  refine VC_seq ?_
  refine VC_drawV 8 [[], [0], [1], [], [3], [4], [], [5, 6], [2, 7], [0, 1, 2, 3, 4, 5, 6, 7, 8], [9, 8, 0, 1, 2, 3, 4, 5, 6, 7]] [[], [0], [0, 1], [], [3], [3, 4], [], [3, 4, 5, 6], [0, 1, 2, 3, 4, 5, 6, 7], [0, 1, 2, 3, 4, 5, 6, 7, 8], [0, 1, 2, 3, 4, 5, 6, 7, 8, 9]] rfl (by kernel_rfl) ?_
  refine qv_v (q_move rfl) ?_
  refine qv_v (q_nilck rfl) ?_
  refine qv_v (q_load 0 Try.underlying73 rfl rfl rfl (u32s_at (by omega))) ?_
  refine qv_v (q_move rfl) ?_
  refine qv_v (q_nilck rfl) ?_
  refine qv_v (q_load 0 Try.underlying73 rfl rfl rfl (u32s_at (by omega))) ?_
  refine qv_v (q_move rfl) ?_
  refine qv_v (q_add_u32 rfl rfl) ?_
  refine qv_end ?_
  refine VL.keep (Sub.cons (s := 0) rfl (Sub.cons (s := 1) rfl (Sub.cons (s := 2) rfl (Sub.cons (s := 3) rfl (Sub.cons (s := 4) rfl (Sub.cons (s := 5) rfl (Sub.cons (s := 12) rfl (Sub.cons (s := 14) rfl (Sub.cons (s := 19) rfl (Sub.nil _)))))))))) ?_
  refine vl_v (q_add_u32 rfl rfl) rfl ?_
  refine vl_v (q_nilck rfl) rfl ?_
  refine l_stU32 0 rfl rfl rfl sz73 (by omega) ?_
  simp only [List.set_cons_zero, List.set_cons_succ]
  refine vl_nil ?_
  refine (qn_n (th_n ?_))
  refine VC_seq ?_
  refine VC_drawV 9 [[], [], [1], [2], [], [4], [5], [3, 6], [7], [0, 1, 2, 3, 4, 5, 6, 7, 8], [9, 8, 0, 1, 2, 3, 4, 5, 6, 7]] [[], [], [1], [1, 2], [], [4], [4, 5], [1, 2, 3, 4, 5, 6], [1, 2, 3, 4, 5, 6, 7], [0, 1, 2, 3, 4, 5, 6, 7, 8], [0, 1, 2, 3, 4, 5, 6, 7, 8, 9]] rfl (by kernel_rfl) ?_
  refine qv_v (q_move rfl) ?_
  refine qv_v (q_move rfl) ?_
  refine qv_v (q_nilck rfl) ?_
  refine qv_v (q_load 0 Try.underlying73 rfl rfl rfl (u32s_at (by simp only [zs, zr, zm, za, zb, zu, zw, zi, zt, zd, zc, zn, *] <;> first | done | omega))) ?_
  refine qv_v (q_move rfl) ?_
  refine qv_v (q_nilck rfl) ?_
  refine qv_v (q_load 0 Try.underlying73 rfl rfl rfl (u32s_at (by simp only [zs, zr, zm, za, zb, zu, zw, zi, zt, zd, zc, zn, *] <;> first | done | omega))) ?_
  refine qv_v (q_xor_u32 rfl rfl) ?_
  refine qv_v (q_callV Try.func69 rfl rfl rfl (fun w1 H1 => rot_calls _ (-16) _ 16 rfl (by decide) (by decide) w1)) ?_
  refine qv_end ?_
  refine VL.keep (Sub.cons (s := 0) rfl (Sub.cons (s := 1) rfl (Sub.cons (s := 2) rfl (Sub.cons (s := 3) rfl (Sub.cons (s := 4) rfl (Sub.cons (s := 5) rfl (Sub.cons (s := 22) rfl (Sub.cons (s := 30) rfl (Sub.nil _))))))))) ?_
  refine vl_v (q_nilck rfl) rfl ?_
  refine l_stU32 0 rfl rfl rfl sz73 (by simp only [zs, zr, zm, za, zb, zu, zw, zi, zt, zd, zc, zn, *] <;> first | done | omega) ?_
  simp only [List.set_cons_zero, List.set_cons_succ]
  refine vl_nil ?_
  refine (qn_n (th_n ?_))
  refine VC_seq ?_
  refine VC_drawV 6 [[], [0], [1], [], [3], [4], [2, 5], [0, 1, 2, 3, 4, 5, 6], [7, 6, 0, 1, 2, 3, 4, 5]] [[], [0], [0, 1], [], [3], [3, 4], [0, 1, 2, 3, 4, 5], [0, 1, 2, 3, 4, 5, 6], [0, 1, 2, 3, 4, 5, 6, 7]] rfl (by kernel_rfl) ?_
  refine qv_v (q_move rfl) ?_
  refine qv_v (q_nilck rfl) ?_
  refine qv_v (q_load 0 Try.underlying73 rfl rfl rfl (u32s_at (by simp only [zs, zr, zm, za, zb, zu, zw, zi, zt, zd, zc, zn, *] <;> first | done | omega))) ?_
  refine qv_v (q_move rfl) ?_
  refine qv_v (q_nilck rfl) ?_
  refine qv_v (q_load 0 Try.underlying73 rfl rfl rfl (u32s_at (by simp only [zs, zr, zm, za, zb, zu, zw, zi, zt, zd, zc, zn, *] <;> first | done | omega))) ?_
  refine qv_end ?_
  refine VL.keep (Sub.cons (s := 0) rfl (Sub.cons (s := 1) rfl (Sub.cons (s := 2) rfl (Sub.cons (s := 3) rfl (Sub.cons (s := 4) rfl (Sub.cons (s := 5) rfl (Sub.cons (s := 32) rfl (Sub.cons (s := 34) rfl (Sub.cons (s := 37) rfl (Sub.nil _)))))))))) ?_
  refine vl_v (q_add_u32 rfl rfl) rfl ?_
  refine vl_v (q_nilck rfl) rfl ?_
  refine l_stU32 0 rfl rfl rfl sz73 (by simp only [zs, zr, zm, za, zb, zu, zw, zi, zt, zd, zc, zn, *] <;> first | done | omega) ?_
  simp only [List.set_cons_zero, List.set_cons_succ]
  refine vl_nil ?_
  refine (qn_n (th_n ?_))
  refine VC_seq ?_
  refine VC_drawV 9 [[], [], [1], [2], [], [4], [5], [3, 6], [7], [0, 1, 2, 3, 4, 5, 6, 7, 8], [9, 8, 0, 1, 2, 3, 4, 5, 6, 7]] [[], [], [1], [1, 2], [], [4], [4, 5], [1, 2, 3, 4, 5, 6], [1, 2, 3, 4, 5, 6, 7], [0, 1, 2, 3, 4, 5, 6, 7, 8], [0, 1, 2, 3, 4, 5, 6, 7, 8, 9]] rfl (by kernel_rfl) ?_
  refine qv_v (q_move rfl) ?_
  refine qv_v (q_move rfl) ?_
  refine qv_v (q_nilck rfl) ?_
  refine qv_v (q_load 0 Try.underlying73 rfl rfl rfl (u32s_at (by simp only [zs, zr, zm, za, zb, zu, zw, zi, zt, zd, zc, zn, *] <;> first | done | omega))) ?_
  refine qv_v (q_move rfl) ?_
  refine qv_v (q_nilck rfl) ?_
  refine qv_v (q_load 0 Try.underlying73 rfl rfl rfl (u32s_at (by simp only [zs, zr, zm, za, zb, zu, zw, zi, zt, zd, zc, zn, *] <;> first | done | omega))) ?_
  refine qv_v (q_xor_u32 rfl rfl) ?_
  refine qv_v (q_callV Try.func69 rfl rfl rfl (fun w1 H1 => rot_calls _ (-12) _ 20 rfl (by decide) (by decide) w1)) ?_
  refine qv_end ?_
  refine VL.keep (Sub.cons (s := 0) rfl (Sub.cons (s := 1) rfl (Sub.cons (s := 2) rfl (Sub.cons (s := 3) rfl (Sub.cons (s := 4) rfl (Sub.cons (s := 5) rfl (Sub.cons (s := 40) rfl (Sub.cons (s := 48) rfl (Sub.nil _))))))))) ?_
  refine vl_v (q_nilck rfl) rfl ?_
  refine l_stU32 0 rfl rfl rfl sz73 (by simp only [zs, zr, zm, za, zb, zu, zw, zi, zt, zd, zc, zn, *] <;> first | done | omega) ?_
  simp only [List.set_cons_zero, List.set_cons_succ]
  refine vl_nil ?_
  refine (qn_n (th_n ?_))
  refine VC_seq ?_
  refine VC_drawV 8 [[], [0], [1], [], [3], [4], [], [5, 6], [2, 7], [0, 1, 2, 3, 4, 5, 6, 7, 8], [9, 8, 0, 1, 2, 3, 4, 5, 6, 7]] [[], [0], [0, 1], [], [3], [3, 4], [], [3, 4, 5, 6], [0, 1, 2, 3, 4, 5, 6, 7], [0, 1, 2, 3, 4, 5, 6, 7, 8], [0, 1, 2, 3, 4, 5, 6, 7, 8, 9]] rfl (by kernel_rfl) ?_
  refine qv_v (q_move rfl) ?_
  refine qv_v (q_nilck rfl) ?_
  refine qv_v (q_load 0 Try.underlying73 rfl rfl rfl (u32s_at (by simp only [zs, zr, zm, za, zb, zu, zw, zi, zt, zd, zc, zn, *] <;> first | done | omega))) ?_
  refine qv_v (q_move rfl) ?_
  refine qv_v (q_nilck rfl) ?_
  refine qv_v (q_load 0 Try.underlying73 rfl rfl rfl (u32s_at (by simp only [zs, zr, zm, za, zb, zu, zw, zi, zt, zd, zc, zn, *] <;> first | done | omega))) ?_
  refine qv_v (q_move rfl) ?_
  refine qv_v (q_add_u32 rfl rfl) ?_
  refine qv_end ?_
  refine VL.keep (Sub.cons (s := 0) rfl (Sub.cons (s := 1) rfl (Sub.cons (s := 2) rfl (Sub.cons (s := 3) rfl (Sub.cons (s := 4) rfl (Sub.cons (s := 5) rfl (Sub.cons (s := 50) rfl (Sub.cons (s := 52) rfl (Sub.cons (s := 57) rfl (Sub.nil _)))))))))) ?_
  refine vl_v (q_add_u32 rfl rfl) rfl ?_
  refine vl_v (q_nilck rfl) rfl ?_
  refine l_stU32 0 rfl rfl rfl sz73 (by simp only [zs, zr, zm, za, zb, zu, zw, zi, zt, zd, zc, zn, *] <;> first | done | omega) ?_
  simp only [List.set_cons_zero, List.set_cons_succ]
  refine vl_nil ?_
  refine (qn_n (th_n ?_))
  refine VC_seq ?_
  refine VC_drawV 9 [[], [], [1], [2], [], [4], [5], [3, 6], [7], [0, 1, 2, 3, 4, 5, 6, 7, 8], [9, 8, 0, 1, 2, 3, 4, 5, 6, 7]] [[], [], [1], [1, 2], [], [4], [4, 5], [1, 2, 3, 4, 5, 6], [1, 2, 3, 4, 5, 6, 7], [0, 1, 2, 3, 4, 5, 6, 7, 8], [0, 1, 2, 3, 4, 5, 6, 7, 8, 9]] rfl (by kernel_rfl) ?_
  refine qv_v (q_move rfl) ?_
  refine qv_v (q_move rfl) ?_
  refine qv_v (q_nilck rfl) ?_
  refine qv_v (q_load 0 Try.underlying73 rfl rfl rfl (u32s_at (by simp only [zs, zr, zm, za, zb, zu, zw, zi, zt, zd, zc, zn, *] <;> first | done | omega))) ?_
  refine qv_v (q_move rfl) ?_
  refine qv_v (q_nilck rfl) ?_
  refine qv_v (q_load 0 Try.underlying73 rfl rfl rfl (u32s_at (by simp only [zs, zr, zm, za, zb, zu, zw, zi, zt, zd, zc, zn, *] <;> first | done | omega))) ?_
  refine qv_v (q_xor_u32 rfl rfl) ?_
  refine qv_v (q_callV Try.func69 rfl rfl rfl (fun w1 H1 => rot_calls _ (-8) _ 24 rfl (by decide) (by decide) w1)) ?_
  refine qv_end ?_
  refine VL.keep (Sub.cons (s := 0) rfl (Sub.cons (s := 1) rfl (Sub.cons (s := 2) rfl (Sub.cons (s := 3) rfl (Sub.cons (s := 4) rfl (Sub.cons (s := 5) rfl (Sub.cons (s := 60) rfl (Sub.cons (s := 68) rfl (Sub.nil _))))))))) ?_
  refine vl_v (q_nilck rfl) rfl ?_
  refine l_stU32 0 rfl rfl rfl sz73 (by simp only [zs, zr, zm, za, zb, zu, zw, zi, zt, zd, zc, zn, *] <;> first | done | omega) ?_
  simp only [List.set_cons_zero, List.set_cons_succ]
  refine vl_nil ?_
  refine (qn_n (th_n ?_))
  refine VC_seq ?_
  refine VC_drawV 6 [[], [0], [1], [], [3], [4], [2, 5], [0, 1, 2, 3, 4, 5, 6], [7, 6, 0, 1, 2, 3, 4, 5]] [[], [0], [0, 1], [], [3], [3, 4], [0, 1, 2, 3, 4, 5], [0, 1, 2, 3, 4, 5, 6], [0, 1, 2, 3, 4, 5, 6, 7]] rfl (by kernel_rfl) ?_
  refine qv_v (q_move rfl) ?_
  refine qv_v (q_nilck rfl) ?_
  refine qv_v (q_load 0 Try.underlying73 rfl rfl rfl (u32s_at (by simp only [zs, zr, zm, za, zb, zu, zw, zi, zt, zd, zc, zn, *] <;> first | done | omega))) ?_
  refine qv_v (q_move rfl) ?_
  refine qv_v (q_nilck rfl) ?_
  refine qv_v (q_load 0 Try.underlying73 rfl rfl rfl (u32s_at (by simp only [zs, zr, zm, za, zb, zu, zw, zi, zt, zd, zc, zn, *] <;> first | done | omega))) ?_
  refine qv_end ?_
  refine VL.keep (Sub.cons (s := 0) rfl (Sub.cons (s := 1) rfl (Sub.cons (s := 2) rfl (Sub.cons (s := 3) rfl (Sub.cons (s := 4) rfl (Sub.cons (s := 5) rfl (Sub.cons (s := 70) rfl (Sub.cons (s := 72) rfl (Sub.cons (s := 75) rfl (Sub.nil _)))))))))) ?_
  refine vl_v (q_add_u32 rfl rfl) rfl ?_
  refine vl_v (q_nilck rfl) rfl ?_
  refine l_stU32 0 rfl rfl rfl sz73 (by simp only [zs, zr, zm, za, zb, zu, zw, zi, zt, zd, zc, zn, *] <;> first | done | omega) ?_
  simp only [List.set_cons_zero, List.set_cons_succ]
  refine vl_nil ?_
  refine (qn_n (th_n ?_))
  refine VC_drawV 9 [[], [], [1], [2], [], [4], [5], [3, 6], [7], [0, 1, 2, 3, 4, 5, 6, 7, 8], [9, 8, 0, 1, 2, 3, 4, 5, 6, 7]] [[], [], [1], [1, 2], [], [4], [4, 5], [1, 2, 3, 4, 5, 6], [1, 2, 3, 4, 5, 6, 7], [0, 1, 2, 3, 4, 5, 6, 7, 8], [0, 1, 2, 3, 4, 5, 6, 7, 8, 9]] rfl (by kernel_rfl) ?_
  refine qv_v (q_move rfl) ?_
  refine qv_v (q_move rfl) ?_
  refine qv_v (q_nilck rfl) ?_
  refine qv_v (q_load 0 Try.underlying73 rfl rfl rfl (u32s_at (by simp only [zs, zr, zm, za, zb, zu, zw, zi, zt, zd, zc, zn, *] <;> first | done | omega))) ?_
  refine qv_v (q_move rfl) ?_
  refine qv_v (q_nilck rfl) ?_
  refine qv_v (q_load 0 Try.underlying73 rfl rfl rfl (u32s_at (by simp only [zs, zr, zm, za, zb, zu, zw, zi, zt, zd, zc, zn, *] <;> first | done | omega))) ?_
  refine qv_v (q_xor_u32 rfl rfl) ?_
  refine qv_v (q_callV Try.func69 rfl rfl rfl (fun w1 H1 => rot_calls _ (-7) _ 25 rfl (by decide) (by decide) w1)) ?_
  refine qv_end ?_
  refine VL.keep (Sub.cons (s := 0) rfl (Sub.cons (s := 1) rfl (Sub.cons (s := 2) rfl (Sub.cons (s := 3) rfl (Sub.cons (s := 4) rfl (Sub.cons (s := 5) rfl (Sub.cons (s := 78) rfl (Sub.cons (s := 86) rfl (Sub.nil _))))))))) ?_
  refine vl_v (q_nilck rfl) rfl ?_
  refine l_stU32 0 rfl rfl rfl sz73 (by simp only [zs, zr, zm, za, zb, zu, zw, zi, zt, zd, zc, zn, *] <;> first | done | omega) ?_
  simp only [List.set_cons_zero, List.set_cons_succ]
  refine vl_nil ?_
  refine (qn_n ?_)
  refine ⟨_, res0 rfl, ?_⟩
  exact ⟨rfl, rfl⟩
theorem first_calls (w : World) :
    Calls Try.prog 52 #[] w fun e w' => e = .returned (.agg (u32s iv).toArray) ∧ Kept [] w w' := by
  refine enter (n := 2) (R := fun e L => e = .returned (.agg (u32s iv).toArray)) [] Try.func52 rfl rfl rfl (St.refl w) ?_ (fun e w' L' h H => ⟨h, H.kept⟩)
  refine VC_seq ?_
  refine VC_region ?_
  refine l_allocA zr85 rfl ?_
  intro b0
  refine vl_nil ?_
  refine (th_n ?_)
  refine VC_seq ?_
  refine VC_region ?_
  refine vl_v (q_build (c' := u32s iv) rfl (by kernel_rfl)) rfl ?_
  refine l_storeA 0 rfl rfl rfl sz85 (by rfl) (by with_reducible first | exact bys_one _ | exact u32s_one _ | exact u64s_one _ | exact i64s_one _ | exact n64s_one _ | assumption) (by simp only [zs, zr, zm, za, zb, zu, zw, zi, zt, zd, zc, zn, *] <;> first | done | omega) ?_
  simp only [List.set_cons_zero, List.set_cons_succ]
  refine vl_nil ?_
  refine (th_n ?_)
  refine VC_ret ?_
  refine ⟨_, resC1 0 rfl Try.underlying85 rfl rfl rfl sz85 (by rfl), ?_⟩
  exact rfl
theorem rows_calls (w : World) :
    Calls Try.prog 65 #[] w fun e w' => ∃ b, e = .returned (vP b 0) ∧ St [] w [.blk b 111 (bys sRows.flatten)] w' := by
  refine enter (n := 13) (R := fun e L => ∃ b, e = .returned (vP b 0) ∧ L = [.blk b 111 (bys sRows.flatten)]) [] Try.func65 rfl rfl rfl (St.refl w) ?_ (fun e w' L' h H => by obtain ⟨b, h1, rfl⟩ := h; exact ⟨b, h1, H⟩)
  refine VC_seq ?_
  refine VC_region ?_
  refine vl_v (q_assign rfl) rfl ?_
  refine vl_nil ?_
  refine (th_n ?_)
  refine VC_seq ?_
  refine VC_region ?_
  refine vl_v (q_build (c' := bys (sRow 0)) rfl (by kernel_rfl)) rfl ?_
  refine vl_v (q_build (c' := bys (sRow 1)) rfl (by kernel_rfl)) rfl ?_
  refine vl_v (q_build (c' := bys (sRow 2)) rfl (by kernel_rfl)) rfl ?_
  refine vl_v (q_build (c' := bys (sRow 3)) rfl (by kernel_rfl)) rfl ?_
  refine vl_v (q_build (c' := bys (sRow 4)) rfl (by kernel_rfl)) rfl ?_
  refine vl_v (q_build (c' := bys (sRow 5)) rfl (by kernel_rfl)) rfl ?_
  refine vl_v (q_build (c' := bys (sRow 6)) rfl (by kernel_rfl)) rfl ?_
  refine vl_v (q_build (c' := bys (sRow 7)) rfl (by kernel_rfl)) rfl ?_
  refine vl_v (q_build (c' := bys (sRow 8)) rfl (by kernel_rfl)) rfl ?_
  refine vl_v (q_build (c' := bys (sRow 9)) rfl (by kernel_rfl)) rfl ?_
  refine vl_v (q_build (c' := bys sRows.flatten) rfl (by kernel_rfl)) rfl ?_
  refine l_boxA rfl rfl ?_
  intro b12
  refine vl_v (q_assign rfl) rfl ?_
  refine vl_nil ?_
  refine (th_n ?_)
  refine VC_ret ?_
  refine ⟨_, res1 rfl rfl, ?_⟩
  exact ⟨_, rfl, rfl⟩
end Go.Proofs.Ytabmfndiepmcgaa
end
section
namespace Go.Proofs.Ytabmfndiepmcgaa
open Go.RowKit Go.PBYtabmfndiepmcgaa
set_option linter.unusedVariables false
set_option linter.unusedSimpArgs false
set_option maxRecDepth 10000
theorem of4 {S : List Nat} {w0 w : World} {L : List Res} {b : Nat} {T : TypeId} {c : List Value} {l : List UInt8} (k o r cap : Nat) (H : St S w0 L w) (hk : L[k]? = some (.blk b T c)) (hl : l.length = 4) (hv : (c.drop o).take 4 = bys l) (hc : 4 ≤ cap) (hr : r = 4) :
    Calls Try.prog 64 #[.slice (some ⟨b, o, none⟩) r cap] w fun e w' => e = .returned (.int .u64 (ofHigh (l.take 4).reverse)) ∧ Kept [] w w' := by
  subst hr
  have h := ofLow_calls l (some ⟨b, o, none⟩) cap w (hv ▸ ((H.blk hk).sl o).take 4) (by omega) (by omega)
  rw [hl, List.take_of_length_le (by omega)] at h
  rw [List.take_of_length_le (by omega)]
  exact h
set_option maxHeartbeats 2000000 in
theorem into_true {S : List Nat} {w0 : World} {R : List Res} {T : TypeId} {c : List Value} (h : List UInt32) (blk : List UInt8) (t : UInt64) (bh bb o : Nat) (hh : h.length = 8) (hb : blk.length = 64) (hc : (c.drop o).take 64 = bys blk) (w : World) (H : St S w0 (.blk bh 85 (u32s h) :: .blk bb T c :: R) w) :
    Calls Try.prog 53 #[vP bh 0, vP bb o, vU64 t, .bool true] w fun e w' => e = .returned (.tuple #[]) ∧ St S w0 (.blk bh 85 (u32s (into h blk t true)) :: .blk bb T c :: R) w' := by
  have hm16 := wordsB_length blk 16
  have hv0 := vBeg_length h t true
  rw [hh] at hv0
  obtain ⟨v0, hve⟩ : ∃ v, v = vBeg h t true := ⟨_, rfl⟩
  rw [← hve] at hv0
  obtain ⟨m16, hme⟩ : ∃ v, v = wordsB blk 16 := ⟨_, rfl⟩
  rw [← hme] at hm16
  have hcl : o + 64 ≤ c.length := by
    have := congrArg List.length hc
    rw [List.length_take, List.length_drop, bys_length, hb] at this
    omega
  refine enter (n := 153) (R := fun e L => e = .returned (.tuple #[]) ∧ ∃ M, L = M ++ (.blk bh 85 (u32s (into h blk t true)) :: .blk bb T c :: R)) [vP bh 0, vP bb o, vU64 t, .bool true] Try.func53 rfl rfl rfl H ?_ (fun e w' L' h H => by obtain ⟨h1, M, rfl⟩ := h; exact ⟨h1, H.sub (List.sublist_append_right _ _)⟩)
  refine VC_seq ?_
  refine VC_region ?_
  refine l_allocA zr103 rfl ?_
  intro b8
  refine l_allocA zr103 rfl ?_
  intro b9
  refine vl_nil ?_
  refine (th_n ?_)
  refine VC_seq ?_
  refine VC_region ?_
  refine vl_v (q_callV Try.func52 rfl rfl rfl (fun w1 H1 => first_calls w1)) rfl ?_
  refine l_allocA zr85 rfl ?_
  intro b10
  refine l_storeA 0 rfl rfl rfl sz85 (by rfl) (by with_reducible first | exact bys_one _ | exact u32s_one _ | exact u64s_one _ | exact i64s_one _ | exact n64s_one _ | assumption) (by simp only [List.length_set, List.length_append, List.length_replicate, u32s_length, bys_length, *] <;> first | done | omega) ?_
  simp only [List.set_cons_zero, List.set_cons_succ]
  refine vl_nil ?_
  refine (th_n ?_)
  refine VC_seq ?_
  refine VC_drawV 4 [[], [], [1], [2], [0, 3]] [[], [], [1], [1, 2], [0, 1, 2, 3]] rfl (by kernel_rfl) ?_
  refine qv_v (q_slcA (h := 8) Try.underlying103 sz73 rfl rfl ⟨_, rfl⟩ rfl (.inl rfl) (by omega) (by omega) (by omega) (by omega) (by (try simp only [Nat.mul_one, Nat.zero_add, Nat.zero_mul, Nat.mul_zero, Nat.add_zero]) <;> rfl)) ?_
  refine qv_v (q_move rfl) ?_
  refine qv_v (q_nilck rfl) ?_
  refine qv_v (q_slcA Try.underlying85 sz73 rfl rfl rfl rfl (.inl rfl) (by omega) (by omega) (by omega) (by omega) (by (try simp only [Nat.mul_one, Nat.zero_add, Nat.zero_mul, Nat.mul_zero, Nat.add_zero]) <;> rfl)) ?_
  refine qv_end ?_
  refine VL.keep (Sub.cons (s := 0) rfl (Sub.cons (s := 1) rfl (Sub.cons (s := 2) rfl (Sub.cons (s := 3) rfl (Sub.cons (s := 8) rfl (Sub.cons (s := 9) rfl (Sub.cons (s := 10) rfl (Sub.cons (s := 18) rfl (Sub.cons (s := 21) rfl (Sub.nil _)))))))))) ?_
  refine l_copy 2 rfl rfl rfl Try.underlying71 Try.underlying71 sz73 (Reads.blk 3 rfl) (by simp only [u32s_length, bys_length, i64s_length, List.length_append]; omega) (by with_reducible first | exact bys_one _ | exact u32s_one _ | exact u64s_one _ | exact i64s_one _ | exact n64s_one _ | assumption) (by simp only [List.length_set, List.length_append, List.length_replicate, u32s_length, bys_length, *] <;> first | done | omega) rfl ?_
  simp only [List.set_cons_zero, List.set_cons_succ]
  rw [cp1 h hh]
  refine vl_nil ?_
  refine (qn_n (th_n ?_))
  refine VC_seq ?_
  refine VC_drawV 2 [[], [], [0, 1]] [[], [], [0, 1]] rfl (by kernel_rfl) ?_
  refine qv_v (q_slcA (l := 8) Try.underlying103 sz73 rfl ⟨_, rfl⟩ rfl rfl (.inl rfl) (by omega) (by omega) (by omega) (by omega) (by (try simp only [Nat.mul_one, Nat.zero_add, Nat.zero_mul, Nat.mul_zero, Nat.add_zero]) <;> rfl)) ?_
  refine qv_v (q_slcA Try.underlying85 sz73 rfl rfl rfl rfl (.inl rfl) (by omega) (by omega) (by omega) (by omega) (by (try simp only [Nat.mul_one, Nat.zero_add, Nat.zero_mul, Nat.mul_zero, Nat.add_zero]) <;> rfl)) ?_
  refine qv_end ?_
  refine VL.keep (Sub.cons (s := 0) rfl (Sub.cons (s := 1) rfl (Sub.cons (s := 2) rfl (Sub.cons (s := 3) rfl (Sub.cons (s := 8) rfl (Sub.cons (s := 9) rfl (Sub.cons (s := 10) rfl (Sub.cons (s := 23) rfl (Sub.cons (s := 24) rfl (Sub.nil _)))))))))) ?_
  refine l_copy 2 rfl rfl rfl Try.underlying71 Try.underlying71 sz73 (Reads.blk 0 rfl) (by rfl) (by with_reducible first | exact bys_one _ | exact u32s_one _ | exact u64s_one _ | exact i64s_one _ | exact n64s_one _ | assumption) (by simp only [List.length_set, List.length_append, List.length_replicate, u32s_length, bys_length, *] <;> first | done | omega) rfl ?_
  simp only [List.set_cons_zero, List.set_cons_succ]
  rw [cp2 h hh]
  refine vl_nil ?_
  refine (qn_n (th_n ?_))
  refine VC_seq ?_
  refine VC_region ?_
  have hhiv : (h ++ iv).length = 16 := by rw [List.length_append, hh]; rfl
  refine vl_v (q_idxA (m := 12) Try.underlying103 sz73 rfl rfl (by omega) (r := _) (by rw [Nat.mul_one, Nat.zero_add])) rfl ?_
  refine vl_v (q_load 2 Try.underlying73 rfl rfl rfl (u32s_at (by omega))) rfl ?_
  refine vl_v (q_move rfl) rfl ?_
  refine vl_v (q_conv_k (r := ((UInt32.ofNat t.toNat).toNat : Int)) Try.underlying62 Try.underlying73 rfl (by rw [IntKind.wrap_u32, UInt32.toNat_ofNat']; omega)) rfl ?_
  refine vl_v (q_xor_u32 rfl rfl) rfl ?_
  refine vl_v (q_idxA (m := 12) Try.underlying103 sz73 rfl rfl (by omega) (r := _) (by rw [Nat.mul_one, Nat.zero_add])) rfl ?_
  refine l_stU32 2 rfl rfl rfl sz73 (by omega) ?_
  simp only [List.set_cons_zero, List.set_cons_succ]
  refine vl_nil ?_
  refine (th_n ?_)
  refine VC_seq ?_
  refine VC_region ?_
  refine vl_v (q_idxA (m := 13) Try.underlying103 sz73 rfl rfl (by omega) (r := _) (by rw [Nat.mul_one, Nat.zero_add])) rfl ?_
  refine vl_v (q_load 2 Try.underlying73 rfl rfl rfl (u32s_at (by simp only [List.length_set, List.length_append, List.length_replicate, u32s_length, bys_length, *] <;> first | done | omega))) rfl ?_
  refine vl_v (q_move rfl) rfl ?_
  refine vl_v (q_as (v := vU64 (UInt64.ofNat (t.toNat / 2 ^ 32))) (q_shr_u64 (m := 32) rfl rfl) rfl) rfl ?_
  refine vl_v (q_conv_k (r := ((UInt32.ofNat (t.toNat / 2 ^ 32)).toNat : Int)) Try.underlying62 Try.underlying73 rfl (by have ht := UInt64.toNat_lt t; rw [IntKind.wrap_u32, UInt32.toNat_ofNat', UInt64.toNat_ofNat']; omega)) rfl ?_
  refine vl_v (q_xor_u32 rfl rfl) rfl ?_
  refine vl_v (q_idxA (m := 13) Try.underlying103 sz73 rfl rfl (by omega) (r := _) (by rw [Nat.mul_one, Nat.zero_add])) rfl ?_
  refine l_stU32 2 rfl rfl rfl sz73 (by simp only [List.length_set, List.length_append, List.length_replicate, u32s_length, bys_length, *] <;> first | done | omega) ?_
  simp only [List.set_cons_zero, List.set_cons_succ]
  refine vl_nil ?_
  refine (th_n ?_)
  refine VC_seq ?_
  refine VC_seq ?_
  refine VC_region ?_
  refine vl_v (q_move rfl) rfl ?_
  refine vl_nil ?_
  refine (th_n ?_)
  refine VC_yes (rfl) ?_
  refine VC_region ?_
  refine vl_v (q_idxA (m := 14) Try.underlying103 sz73 rfl rfl (by omega) (r := _) (by rw [Nat.mul_one, Nat.zero_add])) rfl ?_
  refine vl_v (q_load 2 Try.underlying73 rfl rfl rfl (u32s_at (by simp only [List.length_set, List.length_append, List.length_replicate, u32s_length, bys_length, *] <;> first | done | omega))) rfl ?_
  refine vl_v (q_xorUn_u32 rfl) rfl ?_
  refine vl_v (q_idxA (m := 14) Try.underlying103 sz73 rfl rfl (by omega) (r := _) (by rw [Nat.mul_one, Nat.zero_add])) rfl ?_
  refine l_stU32 2 rfl rfl rfl sz73 (by simp only [List.length_set, List.length_append, List.length_replicate, u32s_length, bys_length, *] <;> first | done | omega) ?_
  simp only [List.set_cons_zero, List.set_cons_succ]
  refine vl_nil ?_
  refine (th_n ?_)
  refine VC_seq ?_
  refine VC_seq ?_
  refine VC_region ?_
  refine vl_v (q_move rfl) rfl ?_
  refine vl_nil ?_
  refine (th_n ?_)
  refine VC_block ?_
  refine VC_loop (ι := Nat) (fun i => i ≤ 16) (fun i => [(0, vP bh 0), (1, vP bb o), (8, vP b8 0), (9, vP b9 0), (44, vN i)]) (fun i => .blk b9 103 (u32s (wordsB blk i)) :: .blk b8 103 (u32s v0) :: .blk bh 85 (u32s h) :: .blk bb T c :: R) (fun i => 16 - i) 0 (by omega) (Sub.cons (s := 0) rfl (Sub.cons (s := 1) rfl (Sub.cons (s := 8) rfl (Sub.cons (s := 9) rfl (Sub.cons (s := 44) rfl (Sub.nil _)))))) (fun w' H => by rw [hve]; exact St.pickR 5 H (ks := [1, 2, 3, 4]) (by decide) (by decide) rfl rfl) ?_
  rintro i hp
  have hwi := wordsB_length blk i
  refine VC_seq ?_
  refine VC_region ?_
  refine vl_v (q_lss_n (q := 16) Try.underlying3 rfl rfl) rfl ?_
  refine vl_nil ?_
  refine (th_n ?_)
  refine VC_seq ?_
  refine VC_cond rfl (fun ht45 => ?_) (fun ht45 => ?_)
  · skip
    have ht45 := of_decide_eq_true ht45
    refine VC_skip ?_
    refine (th_n ?_)
    refine VC_seq ?_
    refine VC_block ?_
    refine VC_seq ?_
    refine VC_region ?_
    refine vl_v (q_move rfl) rfl ?_
    refine vl_v (q_assign rfl) rfl ?_
    refine vl_nil ?_
    refine (th_n ?_)
    refine VC_region ?_
    refine vl_v (q_move rfl) rfl ?_
    refine vl_v (q_move rfl) rfl ?_
    refine vl_v (q_nilck rfl) rfl ?_
    refine vl_v (q_move rfl) rfl ?_
    refine vl_v (q_mul_n (p := 4) rfl rfl (by omega)) rfl ?_
    refine vl_v (q_move rfl) rfl ?_
    refine vl_v (q_mul_n (p := 4) rfl rfl (by omega)) rfl ?_
    refine vl_v (q_add_n (q := 4) rfl rfl (by omega)) rfl ?_
    refine vl_v (q_slcA Try.underlying90 sz5 rfl ⟨_, rfl⟩ ⟨_, rfl⟩ rfl (.inl rfl) (by omega) (by omega) (by omega) (by omega) (by (try simp only [Nat.mul_one, Nat.zero_add, Nat.zero_mul, Nat.mul_zero, Nat.add_zero]) <;> rfl)) rfl ?_
    refine vl_v (q_callV Try.func64 rfl rfl rfl (fun w1 H1 => of4 (l := (blk.drop (4 * i)).take 4) 3 (o + 4 * i) _ _ H1 rfl (by rw [List.length_take, List.length_drop]; omega) (blkPart hc hb (by omega)) (by omega) (by omega))) rfl ?_
    refine vl_v (q_as (v := vU32 (word32 (blk.drop (4 * i)))) (q_conv_nu32 Try.underlying62 Try.underlying73 rfl) (by rw [List.take_take]; rfl)) rfl ?_
    refine vl_v (q_idxA Try.underlying103 sz73 rfl rfl (by omega) (r := _) (by rw [Nat.mul_one, Nat.zero_add])) rfl ?_
    refine l_stU32 0 rfl rfl rfl sz73 (by omega) ?_
    simp only [List.set_cons_zero, List.set_cons_succ]
    refine vl_nil ?_
    refine (bl_n (th_n ?_))
    refine VC_region ?_
    refine vl_v (q_add_n (q := 1) rfl rfl (by omega)) rfl ?_
    refine vl_v (q_move rfl) rfl ?_
    refine vl_nil ?_
    refine (th_n ?_)
    refine ⟨i + 1, by omega, by omega, (Sub.cons (s := 0) rfl (Sub.cons (s := 1) rfl (Sub.cons (s := 8) rfl (Sub.cons (s := 9) rfl (Sub.cons (s := 44) rfl (Sub.nil _)))))), fun w H => H⟩
  · skip
    have ht45 := of_decide_eq_false ht45
    obtain rfl : i = 16 := by omega
    rw [← hme]
    refine VC_exit ?_
    refine (th_x (th_x (bl_xs (th_n ?_))))
    refine VC_seq ?_
    refine VC_seq ?_
    refine VC_region ?_
    refine l_callP Try.func65 rfl rfl rfl (fun w1 H1 => rows_calls w1) rfl ?_
    intro b60
    refine vl_v (q_nilck rfl) rfl ?_
    refine vl_v (q_move rfl) rfl ?_
    refine vl_nil ?_
    refine (th_n ?_)
    refine VC_block ?_
    refine VC_loop (ι := Nat) (fun r => r ≤ 10) (fun r => [(0, vP bh 0), (8, vP b8 0), (9, vP b9 0), (60, vP b60 0), (62, vN r)]) (fun r => .blk b8 103 (u32s (rndsM v0 m16 r)) :: .blk b9 103 (u32s m16) :: .blk b60 111 (bys sRows.flatten) :: .blk bh 85 (u32s h) :: .blk bb T c :: R) (fun r => 10 - r) 0 (by omega) (Sub.cons (s := 0) rfl (Sub.cons (s := 8) rfl (Sub.cons (s := 9) rfl (Sub.cons (s := 60) rfl (Sub.cons (s := 62) rfl (Sub.nil _)))))) (fun w H => St.pickR 5 H (ks := [2, 1, 0, 3, 4]) (by decide) (by decide) rfl rfl) ?_
    rintro r hp
    have hrl := (rndsM_length v0 m16 r).trans hv0
    refine VC_seq ?_
    refine VC_region ?_
    refine vl_v (q_lss_n (q := 10) Try.underlying3 rfl rfl) rfl ?_
    refine vl_nil ?_
    refine (th_n ?_)
    refine VC_seq ?_
    refine VC_cond rfl (fun ht63 => ?_) (fun ht63 => ?_)
    · skip
      have ht63 := of_decide_eq_true ht63
      refine VC_skip ?_
      refine (th_n ?_)
      refine VC_seq ?_
      refine VC_block ?_
      refine VC_seq ?_
      refine VC_region ?_
      have hs16 := sRow_length (r := r) (by omega)
      refine vl_v (q_nilck rfl) rfl ?_
      refine vl_v (q_idxA Try.underlying111 sz106 rfl rfl (by omega) rfl) rfl ?_
      refine vl_v (q_loadsAt 2 Try.underlying106 rfl rfl rfl sz106 (by exact rowPart (by omega)) (by simp only [u32s_length, bys_length, i64s_length, List.length_append]; omega)) rfl ?_
      refine l_allocA zr106 rfl ?_
      intro b13
      refine l_storeA 0 rfl rfl rfl sz106 (by simp only [u32s_length, bys_length, i64s_length, List.length_append]; omega) (by with_reducible first | exact bys_one _ | exact u32s_one _ | exact u64s_one _ | exact i64s_one _ | exact n64s_one _ | assumption) (by simp only [List.length_set, List.length_append, List.length_replicate, u32s_length, bys_length, *] <;> first | done | omega) ?_
      simp only [List.set_cons_zero, List.set_cons_succ]
      refine vl_nil ?_
      refine (th_n ?_)
      refine VC_seq ?_
      refine VC_seq ?_
      refine VC_region ?_
      refine vl_v (q_move rfl) rfl ?_
      refine vl_nil ?_
      refine (th_n ?_)
      refine VC_block ?_
      refine VC_loop (ι := Nat) (fun k => k ≤ 4) (fun k => [(0, vP bh 0), (8, vP b8 0), (9, vP b9 0), (13, vP b13 0), (60, vP b60 0), (62, vN r), (67, vN k)]) (fun k => .blk b8 103 (u32s (colsM (rndsM v0 m16 r) m16 r k)) :: .blk b13 106 (bys (sRow r)) :: .blk b9 103 (u32s m16) :: .blk b60 111 (bys sRows.flatten) :: .blk bh 85 (u32s h) :: .blk bb T c :: R) (fun k => 4 - k) 0 (by omega) (Sub.cons (s := 0) rfl (Sub.cons (s := 8) rfl (Sub.cons (s := 9) rfl (Sub.cons (s := 13) rfl (Sub.cons (s := 60) rfl (Sub.cons (s := 62) rfl (Sub.cons (s := 67) rfl (Sub.nil _)))))))) (fun w H => St.pickR 6 H (ks := [1, 0, 2, 3, 4, 5]) (by decide) (by decide) rfl rfl) ?_
      rintro k hp
      have hcl4 := (colsM_length (rndsM v0 m16 r) m16 r k).trans hrl
      refine VC_seq ?_
      refine VC_region ?_
      refine vl_v (q_lss_n (q := 4) Try.underlying3 rfl rfl) rfl ?_
      refine vl_nil ?_
      refine (th_n ?_)
      refine VC_seq ?_
      refine VC_cond rfl (fun ht68 => ?_) (fun ht68 => ?_)
      · skip
        have ht68 := of_decide_eq_true ht68
        refine VC_skip ?_
        refine (th_n ?_)
        refine VC_seq ?_
        refine VC_block ?_
        refine VC_seq ?_
        refine VC_region ?_
        refine vl_v (q_move rfl) rfl ?_
        refine vl_v (q_assign rfl) rfl ?_
        refine vl_nil ?_
        refine (th_n ?_)
        have s1 : ((sRow r).getD (2 * k) 0).toNat < 16 := sg_lt (by omega) (by omega)
        have s2 : ((sRow r).getD (2 * k + 1) 0).toNat < 16 := sg_lt (by omega) (by omega)
        refine VC_drawV 24 [[], [0], [], [2], [3], [], [5], [6], [], [8], [9], [], [11], [12], [13], [14], [15], [], [17], [18], [19], [20], [21], [22], [1, 4, 7, 10, 16, 23]] [[], [0], [], [2], [2, 3], [], [5], [5, 6], [], [8], [8, 9], [], [11], [11, 12], [11, 12, 13], [11, 12, 13, 14], [11, 12, 13, 14, 15], [], [17], [17, 18], [17, 18, 19], [17, 18, 19, 20], [17, 18, 19, 20, 21], [17, 18, 19, 20, 21, 22], [0, 1, 2, 3, 4, 5, 6, 7, 8, 9, 10, 11, 12, 13, 14, 15, 16, 17, 18, 19, 20, 21, 22, 23]] rfl (by kernel_rfl) ?_
        refine qv_v (q_move rfl) ?_
        refine qv_v (q_idxA Try.underlying103 sz73 rfl rfl (by omega) (r := _) (by rw [Nat.mul_one, Nat.zero_add])) ?_
        refine qv_v (q_move rfl) ?_
        refine qv_v (q_add_n (p := 4) rfl rfl (by omega)) ?_
        refine qv_v (q_idxA Try.underlying103 sz73 rfl rfl (by omega) (r := _) (by rw [Nat.mul_one, Nat.zero_add])) ?_
        refine qv_v (q_move rfl) ?_
        refine qv_v (q_add_n (p := 8) rfl rfl (by omega)) ?_
        refine qv_v (q_idxA Try.underlying103 sz73 rfl rfl (by omega) (r := _) (by rw [Nat.mul_one, Nat.zero_add])) ?_
        refine qv_v (q_move rfl) ?_
        refine qv_v (q_add_n (p := 12) rfl rfl (by omega)) ?_
        refine qv_v (q_idxA Try.underlying103 sz73 rfl rfl (by omega) (r := _) (by rw [Nat.mul_one, Nat.zero_add])) ?_
        refine qv_v (q_move rfl) ?_
        refine qv_v (q_mul_n (p := 2) rfl rfl (by omega)) ?_
        refine qv_v (q_idxA Try.underlying106 sz5 rfl rfl (by omega) (r := _) (by rw [Nat.mul_one, Nat.zero_add])) ?_
        refine qv_v (q_load 1 Try.underlying5 rfl rfl rfl (bys_at (by omega))) ?_
        refine qv_v (q_idxA Try.underlying103 sz73 rfl rfl (by omega) (r := _) (by rw [Nat.mul_one, Nat.zero_add])) ?_
        refine qv_v (q_load 2 Try.underlying73 rfl rfl rfl (u32s_at (by omega))) ?_
        refine qv_v (q_move rfl) ?_
        refine qv_v (q_mul_n (p := 2) rfl rfl (by omega)) ?_
        refine qv_v (q_add_n (q := 1) rfl rfl (by omega)) ?_
        refine qv_v (q_idxA Try.underlying106 sz5 rfl rfl (by omega) (r := _) (by rw [Nat.mul_one, Nat.zero_add])) ?_
        refine qv_v (q_load 1 Try.underlying5 rfl rfl rfl (bys_at (by omega))) ?_
        refine qv_v (q_idxA Try.underlying103 sz73 rfl rfl (by omega) (r := _) (by rw [Nat.mul_one, Nat.zero_add])) ?_
        refine qv_v (q_load 2 Try.underlying73 rfl rfl rfl (u32s_at (by omega))) ?_
        refine qv_end ?_
        refine VL.keep (Sub.cons (s := 0) rfl (Sub.cons (s := 8) rfl (Sub.cons (s := 9) rfl (Sub.cons (s := 13) rfl (Sub.cons (s := 60) rfl (Sub.cons (s := 62) rfl (Sub.cons (s := 67) rfl (Sub.cons (s := 68) rfl (Sub.cons (s := 14) rfl (Sub.cons (s := 71) rfl (Sub.cons (s := 74) rfl (Sub.cons (s := 77) rfl (Sub.cons (s := 80) rfl (Sub.cons (s := 86) rfl (Sub.cons (s := 93) rfl (Sub.nil _)))))))))))))))) ?_
        refine l_callE Try.func66 rfl rfl rfl (fun w1 H1 => mix_calls (colsM (rndsM v0 m16 r) m16 r k) k (4 + k) (8 + k) (12 + k) _ _ b8 hcl4 (by omega) (by omega) (by omega) (by omega) w1 H1) rfl ?_
        refine vl_nil ?_
        refine (qn_n (bl_n (th_n ?_)))
        refine VC_region ?_
        refine vl_v (q_add_n (q := 1) rfl rfl (by omega)) rfl ?_
        refine vl_v (q_move rfl) rfl ?_
        refine vl_nil ?_
        refine (th_n ?_)
        refine ⟨k + 1, by omega, by omega, (Sub.cons (s := 0) rfl (Sub.cons (s := 8) rfl (Sub.cons (s := 9) rfl (Sub.cons (s := 13) rfl (Sub.cons (s := 60) rfl (Sub.cons (s := 62) rfl (Sub.cons (s := 67) rfl (Sub.nil _)))))))), fun w H => H⟩
      · skip
        have ht68 := of_decide_eq_false ht68
        obtain rfl : k = 4 := by omega
        refine VC_exit ?_
        refine (th_x (th_x (bl_xs (th_n ?_))))
        refine VC_seq ?_
        refine VC_region ?_
        refine vl_v (q_move rfl) rfl ?_
        refine vl_nil ?_
        refine (th_n ?_)
        refine VC_block ?_
        refine VC_loop (ι := Nat) (fun q => q ≤ 4) (fun q => [(0, vP bh 0), (8, vP b8 0), (9, vP b9 0), (13, vP b13 0), (60, vP b60 0), (62, vN r), (96, vN q)]) (fun q => .blk b8 103 (u32s (diagsM (colsM (rndsM v0 m16 r) m16 r 4) m16 r q)) :: .blk b13 106 (bys (sRow r)) :: .blk b9 103 (u32s m16) :: .blk b60 111 (bys sRows.flatten) :: .blk bh 85 (u32s h) :: .blk bb T c :: R) (fun q => 4 - q) 0 (by omega) (Sub.cons (s := 0) rfl (Sub.cons (s := 8) rfl (Sub.cons (s := 9) rfl (Sub.cons (s := 13) rfl (Sub.cons (s := 60) rfl (Sub.cons (s := 62) rfl (Sub.cons (s := 96) rfl (Sub.nil _)))))))) (fun w H => H) ?_
        rintro q hp
        have hdl := (diagsM_length (colsM (rndsM v0 m16 r) m16 r 4) m16 r q).trans hcl4
        refine VC_seq ?_
        refine VC_region ?_
        refine vl_v (q_lss_n (q := 4) Try.underlying3 rfl rfl) rfl ?_
        refine vl_nil ?_
        refine (th_n ?_)
        refine VC_seq ?_
        refine VC_cond rfl (fun ht97 => ?_) (fun ht97 => ?_)
        · skip
          have ht97 := of_decide_eq_true ht97
          refine VC_skip ?_
          refine (th_n ?_)
          refine VC_seq ?_
          refine VC_block ?_
          refine VC_seq ?_
          refine VC_region ?_
          refine vl_v (q_move rfl) rfl ?_
          refine vl_v (q_assign rfl) rfl ?_
          refine vl_nil ?_
          refine (th_n ?_)
          have s1 : ((sRow r).getD (8 + 2 * q) 0).toNat < 16 := sg_lt (by omega) (by omega)
          have s2 : ((sRow r).getD (9 + 2 * q) 0).toNat < 16 := sg_lt (by omega) (by omega)
          refine VC_drawV 31 [[], [0], [], [2], [3], [4], [5], [], [7], [8], [9], [10], [], [12], [13], [14], [15], [], [17], [18], [19], [20], [21], [22], [], [24], [25], [26], [27], [28], [29], [1, 6, 11, 16, 23, 30]] [[], [0], [], [2], [2, 3], [2, 3, 4], [2, 3, 4, 5], [], [7], [7, 8], [7, 8, 9], [7, 8, 9, 10], [], [12], [12, 13], [12, 13, 14], [12, 13, 14, 15], [], [17], [17, 18], [17, 18, 19], [17, 18, 19, 20], [17, 18, 19, 20, 21], [17, 18, 19, 20, 21, 22], [], [24], [24, 25], [24, 25, 26], [24, 25, 26, 27], [24, 25, 26, 27, 28], [24, 25, 26, 27, 28, 29], [0, 1, 2, 3, 4, 5, 6, 7, 8, 9, 10, 11, 12, 13, 14, 15, 16, 17, 18, 19, 20, 21, 22, 23, 24, 25, 26, 27, 28, 29, 30]] rfl (by kernel_rfl) ?_
          refine qv_v (q_move rfl) ?_
          refine qv_v (q_idxA Try.underlying103 sz73 rfl rfl (by omega) (r := _) (by rw [Nat.mul_one, Nat.zero_add])) ?_
          refine qv_v (q_move rfl) ?_
          refine qv_v (q_add_n (q := 1) rfl rfl (by omega)) ?_
          refine qv_v (q_rem_n (q := 4) rfl rfl (by omega)) ?_
          refine qv_v (q_add_n (p := 4) rfl rfl (by omega)) ?_
          refine qv_v (q_idxA Try.underlying103 sz73 rfl rfl (by omega) (r := _) (by rw [Nat.mul_one, Nat.zero_add])) ?_
          refine qv_v (q_move rfl) ?_
          refine qv_v (q_add_n (q := 2) rfl rfl (by omega)) ?_
          refine qv_v (q_rem_n (q := 4) rfl rfl (by omega)) ?_
          refine qv_v (q_add_n (p := 8) rfl rfl (by omega)) ?_
          refine qv_v (q_idxA Try.underlying103 sz73 rfl rfl (by omega) (r := _) (by rw [Nat.mul_one, Nat.zero_add])) ?_
          refine qv_v (q_move rfl) ?_
          refine qv_v (q_add_n (q := 3) rfl rfl (by omega)) ?_
          refine qv_v (q_rem_n (q := 4) rfl rfl (by omega)) ?_
          refine qv_v (q_add_n (p := 12) rfl rfl (by omega)) ?_
          refine qv_v (q_idxA Try.underlying103 sz73 rfl rfl (by omega) (r := _) (by rw [Nat.mul_one, Nat.zero_add])) ?_
          refine qv_v (q_move rfl) ?_
          refine qv_v (q_mul_n (p := 2) rfl rfl (by omega)) ?_
          refine qv_v (q_add_n (p := 8) rfl rfl (by omega)) ?_
          refine qv_v (q_idxA Try.underlying106 sz5 rfl rfl (by omega) (r := _) (by rw [Nat.mul_one, Nat.zero_add])) ?_
          refine qv_v (q_load 1 Try.underlying5 rfl rfl rfl (bys_at (by omega))) ?_
          refine qv_v (q_idxA Try.underlying103 sz73 rfl rfl (by omega) (r := _) (by rw [Nat.mul_one, Nat.zero_add])) ?_
          refine qv_v (q_load 2 Try.underlying73 rfl rfl rfl (u32s_at (by omega))) ?_
          refine qv_v (q_move rfl) ?_
          refine qv_v (q_mul_n (p := 2) rfl rfl (by omega)) ?_
          refine qv_v (q_add_n (p := 9) rfl rfl (by omega)) ?_
          refine qv_v (q_idxA Try.underlying106 sz5 rfl rfl (by omega) (r := _) (by rw [Nat.mul_one, Nat.zero_add])) ?_
          refine qv_v (q_load 1 Try.underlying5 rfl rfl rfl (bys_at (by omega))) ?_
          refine qv_v (q_idxA Try.underlying103 sz73 rfl rfl (by omega) (r := _) (by rw [Nat.mul_one, Nat.zero_add])) ?_
          refine qv_v (q_load 2 Try.underlying73 rfl rfl rfl (u32s_at (by omega))) ?_
          refine qv_end ?_
          refine VL.keep (Sub.cons (s := 0) rfl (Sub.cons (s := 8) rfl (Sub.cons (s := 9) rfl (Sub.cons (s := 13) rfl (Sub.cons (s := 60) rfl (Sub.cons (s := 62) rfl (Sub.cons (s := 96) rfl (Sub.cons (s := 97) rfl (Sub.cons (s := 15) rfl (Sub.cons (s := 100) rfl (Sub.cons (s := 105) rfl (Sub.cons (s := 110) rfl (Sub.cons (s := 115) rfl (Sub.cons (s := 122) rfl (Sub.cons (s := 129) rfl (Sub.nil _)))))))))))))))) ?_
          refine l_callE Try.func66 rfl rfl rfl (fun w1 H1 => mix_calls (diagsM (colsM (rndsM v0 m16 r) m16 r 4) m16 r q) q (4 + (q + 1) % 4) (8 + (q + 2) % 4) (12 + (q + 3) % 4) _ _ b8 hdl (by omega) (by omega) (by omega) (by omega) w1 H1) rfl ?_
          refine vl_nil ?_
          refine (qn_n (bl_n (th_n ?_)))
          refine VC_region ?_
          refine vl_v (q_add_n (q := 1) rfl rfl (by omega)) rfl ?_
          refine vl_v (q_move rfl) rfl ?_
          refine vl_nil ?_
          refine (th_n ?_)
          refine ⟨q + 1, by omega, by omega, (Sub.cons (s := 0) rfl (Sub.cons (s := 8) rfl (Sub.cons (s := 9) rfl (Sub.cons (s := 13) rfl (Sub.cons (s := 60) rfl (Sub.cons (s := 62) rfl (Sub.cons (s := 96) rfl (Sub.nil _)))))))), fun w H => H⟩
        · skip
          have ht97 := of_decide_eq_false ht97
          obtain rfl : q = 4 := by omega
          refine VC_exit ?_
          refine (th_x (th_x (bl_xs (bl_n (th_n ?_)))))
          refine VC_region ?_
          refine vl_v (q_add_n (q := 1) rfl rfl (by omega)) rfl ?_
          refine vl_v (q_move rfl) rfl ?_
          refine vl_nil ?_
          refine (th_n ?_)
          refine ⟨r + 1, by omega, by omega, (Sub.cons (s := 0) rfl (Sub.cons (s := 8) rfl (Sub.cons (s := 9) rfl (Sub.cons (s := 60) rfl (Sub.cons (s := 62) rfl (Sub.nil _)))))), fun w H => St.pickR 6 H (ks := [0, 2, 3, 4, 5]) (by decide) (by decide) rfl rfl⟩
    · skip
      have ht63 := of_decide_eq_false ht63
      obtain rfl : r = 10 := by omega
      refine VC_exit ?_
      refine (th_x (th_x (bl_xs (th_n ?_))))
      refine VC_seq ?_
      refine VC_region ?_
      refine vl_v (q_move rfl) rfl ?_
      refine vl_nil ?_
      refine (th_n ?_)
      refine VC_block ?_
      refine VC_loop (ι := Nat) (fun z => z ≤ 8) (fun z => [(0, vP bh 0), (8, vP b8 0), (133, vN z)]) (fun z => .blk b8 103 (u32s (rndsM v0 m16 10)) :: .blk bh 85 (u32s (xorV h (rndsM v0 m16 10) z)) :: .blk bb T c :: R) (fun z => 8 - z) 0 (by omega) (Sub.cons (s := 0) rfl (Sub.cons (s := 8) rfl (Sub.cons (s := 133) rfl (Sub.nil _)))) (fun w H => St.pickR 5 H (ks := [0, 3, 4]) (by decide) (by decide) rfl rfl) ?_
      rintro z hp
      have hxl := (xorV_length h (rndsM v0 m16 10) z).trans hh
      refine VC_seq ?_
      refine VC_region ?_
      refine vl_v (q_lss_n (q := 8) Try.underlying3 rfl rfl) rfl ?_
      refine vl_nil ?_
      refine (th_n ?_)
      refine VC_seq ?_
      refine VC_cond rfl (fun ht134 => ?_) (fun ht134 => ?_)
      · skip
        have ht134 := of_decide_eq_true ht134
        refine VC_skip ?_
        refine (th_n ?_)
        refine VC_seq ?_
        refine VC_block ?_
        refine VC_seq ?_
        refine VC_region ?_
        refine vl_v (q_move rfl) rfl ?_
        refine vl_v (q_assign rfl) rfl ?_
        refine vl_nil ?_
        refine (th_n ?_)
        refine VC_drawV 15 [[], [], [0], [2, 1], [3], [], [5], [6], [], [8], [9], [10], [7, 11], [4, 12], [0], [14, 1, 0, 2, 3, 4, 5, 6, 7, 8, 9, 10, 11, 12, 13], [15, 13, 0, 1, 2, 3, 4, 5, 6, 7, 8, 9, 10, 11, 12]] [[], [], [0], [0, 1, 2], [0, 1, 2, 3], [], [5], [5, 6], [], [8], [8, 9], [8, 9, 10], [5, 6, 7, 8, 9, 10, 11], [0, 1, 2, 3, 4, 5, 6, 7, 8, 9, 10, 11, 12], [0], [0, 1, 2, 3, 4, 5, 6, 7, 8, 9, 10, 11, 12, 13, 14], [0, 1, 2, 3, 4, 5, 6, 7, 8, 9, 10, 11, 12, 13, 14, 15]] rfl (by kernel_rfl) ?_
        refine qv_v (q_move rfl) ?_
        refine qv_v (q_move rfl) ?_
        refine qv_v (q_nilck rfl) ?_
        refine qv_v (q_idxA Try.underlying85 sz73 rfl rfl (by omega) (r := _) (by rw [Nat.mul_one, Nat.zero_add])) ?_
        refine qv_v (q_load 1 Try.underlying73 rfl rfl rfl (u32s_at (by omega))) ?_
        refine qv_v (q_move rfl) ?_
        refine qv_v (q_idxA Try.underlying103 sz73 rfl rfl (by omega) (r := _) (by rw [Nat.mul_one, Nat.zero_add])) ?_
        refine qv_v (q_load 0 Try.underlying73 rfl rfl rfl (u32s_at (by omega))) ?_
        refine qv_v (q_move rfl) ?_
        refine qv_v (q_add_n (q := 8) rfl rfl (by omega)) ?_
        refine qv_v (q_idxA Try.underlying103 sz73 rfl rfl (by omega) (r := _) (by rw [Nat.mul_one, Nat.zero_add])) ?_
        refine qv_v (q_load 0 Try.underlying73 rfl rfl rfl (u32s_at (by omega))) ?_
        refine qv_v (q_xor_u32 rfl rfl) ?_
        refine qv_v (q_xor_u32 rfl rfl) ?_
        refine qv_v (q_nilck rfl) ?_
        refine qv_end ?_
        refine VL.keep (Sub.cons (s := 0) rfl (Sub.cons (s := 8) rfl (Sub.cons (s := 133) rfl (Sub.cons (s := 134) rfl (Sub.cons (s := 16) rfl (Sub.cons (s := 137) rfl (Sub.cons (s := 149) rfl (Sub.cons (s := 150) rfl (Sub.nil _))))))))) ?_
        refine vl_v (q_idxA Try.underlying85 sz73 rfl rfl (by omega) (r := _) (by rw [Nat.mul_one, Nat.zero_add])) rfl ?_
        refine l_stU32 1 rfl rfl rfl sz73 (by omega) ?_
        simp only [List.set_cons_zero, List.set_cons_succ]
        refine vl_nil ?_
        refine (qn_n (bl_n (th_n ?_)))
        refine VC_region ?_
        refine vl_v (q_add_n (q := 1) rfl rfl (by omega)) rfl ?_
        refine vl_v (q_move rfl) rfl ?_
        refine vl_nil ?_
        refine (th_n ?_)
        refine ⟨z + 1, by omega, by omega, (Sub.cons (s := 0) rfl (Sub.cons (s := 8) rfl (Sub.cons (s := 133) rfl (Sub.nil _)))), fun w H => H⟩
      · skip
        have ht134 := of_decide_eq_false ht134
        obtain rfl : z = 8 := by omega
        refine VC_exit ?_
        refine (th_x (th_x (bl_xs ?_)))
        refine ⟨_, res0 rfl, ?_⟩
        exact ⟨rfl, [_], by rw [into, ← hve, ← hme]; rfl⟩
end Go.Proofs.Ytabmfndiepmcgaa
end
section
namespace Go.Proofs.Ytabmfndiepmcgaa
open Go.RowKit Go.PBYtabmfndiepmcgaa
set_option linter.unusedVariables false
set_option linter.unusedSimpArgs false
set_option maxRecDepth 10000
set_option maxHeartbeats 2000000 in
theorem into_false {S : List Nat} {w0 : World} {R : List Res} {T : TypeId} {c : List Value} (h : List UInt32) (blk : List UInt8) (t : UInt64) (bh bb o : Nat) (hh : h.length = 8) (hb : blk.length = 64) (hc : (c.drop o).take 64 = bys blk) (w : World) (H : St S w0 (.blk bh 85 (u32s h) :: .blk bb T c :: R) w) :
    Calls Try.prog 53 #[vP bh 0, vP bb o, vU64 t, .bool false] w fun e w' => e = .returned (.tuple #[]) ∧ St S w0 (.blk bh 85 (u32s (into h blk t false)) :: .blk bb T c :: R) w' := by
  have hm16 := wordsB_length blk 16
  have hv0 := vBeg_length h t false
  rw [hh] at hv0
  obtain ⟨v0, hve⟩ : ∃ v, v = vBeg h t false := ⟨_, rfl⟩
  rw [← hve] at hv0
  obtain ⟨m16, hme⟩ : ∃ v, v = wordsB blk 16 := ⟨_, rfl⟩
  rw [← hme] at hm16
  have hcl : o + 64 ≤ c.length := by
    have := congrArg List.length hc
    rw [List.length_take, List.length_drop, bys_length, hb] at this
    omega
  refine enter (n := 153) (R := fun e L => e = .returned (.tuple #[]) ∧ ∃ M, L = M ++ (.blk bh 85 (u32s (into h blk t false)) :: .blk bb T c :: R)) [vP bh 0, vP bb o, vU64 t, .bool false] Try.func53 rfl rfl rfl H ?_ (fun e w' L' h H => by obtain ⟨h1, M, rfl⟩ := h; exact ⟨h1, H.sub (List.sublist_append_right _ _)⟩)
  refine VC_seq ?_
  refine VC_region ?_
  refine l_allocA zr103 rfl ?_
  intro b8
  refine l_allocA zr103 rfl ?_
  intro b9
  refine vl_nil ?_
  refine (th_n ?_)
  refine VC_seq ?_
  refine VC_region ?_
  refine vl_v (q_callV Try.func52 rfl rfl rfl (fun w1 H1 => first_calls w1)) rfl ?_
  refine l_allocA zr85 rfl ?_
  intro b10
  refine l_storeA 0 rfl rfl rfl sz85 (by rfl) (by with_reducible first | exact bys_one _ | exact u32s_one _ | exact u64s_one _ | exact i64s_one _ | exact n64s_one _ | assumption) (by simp only [List.length_set, List.length_append, List.length_replicate, u32s_length, bys_length, *] <;> first | done | omega) ?_
  simp only [List.set_cons_zero, List.set_cons_succ]
  refine vl_nil ?_
  refine (th_n ?_)
  refine VC_seq ?_
  refine VC_drawV 4 [[], [], [1], [2], [0, 3]] [[], [], [1], [1, 2], [0, 1, 2, 3]] rfl (by kernel_rfl) ?_
  refine qv_v (q_slcA (h := 8) Try.underlying103 sz73 rfl rfl ⟨_, rfl⟩ rfl (.inl rfl) (by omega) (by omega) (by omega) (by omega) (by (try simp only [Nat.mul_one, Nat.zero_add, Nat.zero_mul, Nat.mul_zero, Nat.add_zero]) <;> rfl)) ?_
  refine qv_v (q_move rfl) ?_
  refine qv_v (q_nilck rfl) ?_
  refine qv_v (q_slcA Try.underlying85 sz73 rfl rfl rfl rfl (.inl rfl) (by omega) (by omega) (by omega) (by omega) (by (try simp only [Nat.mul_one, Nat.zero_add, Nat.zero_mul, Nat.mul_zero, Nat.add_zero]) <;> rfl)) ?_
  refine qv_end ?_
  refine VL.keep (Sub.cons (s := 0) rfl (Sub.cons (s := 1) rfl (Sub.cons (s := 2) rfl (Sub.cons (s := 3) rfl (Sub.cons (s := 8) rfl (Sub.cons (s := 9) rfl (Sub.cons (s := 10) rfl (Sub.cons (s := 18) rfl (Sub.cons (s := 21) rfl (Sub.nil _)))))))))) ?_
  refine l_copy 2 rfl rfl rfl Try.underlying71 Try.underlying71 sz73 (Reads.blk 3 rfl) (by simp only [u32s_length, bys_length, i64s_length, List.length_append]; omega) (by with_reducible first | exact bys_one _ | exact u32s_one _ | exact u64s_one _ | exact i64s_one _ | exact n64s_one _ | assumption) (by simp only [List.length_set, List.length_append, List.length_replicate, u32s_length, bys_length, *] <;> first | done | omega) rfl ?_
  simp only [List.set_cons_zero, List.set_cons_succ]
  rw [cp1 h hh]
  refine vl_nil ?_
  refine (qn_n (th_n ?_))
  refine VC_seq ?_
  refine VC_drawV 2 [[], [], [0, 1]] [[], [], [0, 1]] rfl (by kernel_rfl) ?_
  refine qv_v (q_slcA (l := 8) Try.underlying103 sz73 rfl ⟨_, rfl⟩ rfl rfl (.inl rfl) (by omega) (by omega) (by omega) (by omega) (by (try simp only [Nat.mul_one, Nat.zero_add, Nat.zero_mul, Nat.mul_zero, Nat.add_zero]) <;> rfl)) ?_
  refine qv_v (q_slcA Try.underlying85 sz73 rfl rfl rfl rfl (.inl rfl) (by omega) (by omega) (by omega) (by omega) (by (try simp only [Nat.mul_one, Nat.zero_add, Nat.zero_mul, Nat.mul_zero, Nat.add_zero]) <;> rfl)) ?_
  refine qv_end ?_
  refine VL.keep (Sub.cons (s := 0) rfl (Sub.cons (s := 1) rfl (Sub.cons (s := 2) rfl (Sub.cons (s := 3) rfl (Sub.cons (s := 8) rfl (Sub.cons (s := 9) rfl (Sub.cons (s := 10) rfl (Sub.cons (s := 23) rfl (Sub.cons (s := 24) rfl (Sub.nil _)))))))))) ?_
  refine l_copy 2 rfl rfl rfl Try.underlying71 Try.underlying71 sz73 (Reads.blk 0 rfl) (by rfl) (by with_reducible first | exact bys_one _ | exact u32s_one _ | exact u64s_one _ | exact i64s_one _ | exact n64s_one _ | assumption) (by simp only [List.length_set, List.length_append, List.length_replicate, u32s_length, bys_length, *] <;> first | done | omega) rfl ?_
  simp only [List.set_cons_zero, List.set_cons_succ]
  rw [cp2 h hh]
  refine vl_nil ?_
  refine (qn_n (th_n ?_))
  refine VC_seq ?_
  refine VC_region ?_
  have hhiv : (h ++ iv).length = 16 := by rw [List.length_append, hh]; rfl
  refine vl_v (q_idxA (m := 12) Try.underlying103 sz73 rfl rfl (by omega) (r := _) (by rw [Nat.mul_one, Nat.zero_add])) rfl ?_
  refine vl_v (q_load 2 Try.underlying73 rfl rfl rfl (u32s_at (by omega))) rfl ?_
  refine vl_v (q_move rfl) rfl ?_
  refine vl_v (q_conv_k (r := ((UInt32.ofNat t.toNat).toNat : Int)) Try.underlying62 Try.underlying73 rfl (by rw [IntKind.wrap_u32, UInt32.toNat_ofNat']; omega)) rfl ?_
  refine vl_v (q_xor_u32 rfl rfl) rfl ?_
  refine vl_v (q_idxA (m := 12) Try.underlying103 sz73 rfl rfl (by omega) (r := _) (by rw [Nat.mul_one, Nat.zero_add])) rfl ?_
  refine l_stU32 2 rfl rfl rfl sz73 (by omega) ?_
  simp only [List.set_cons_zero, List.set_cons_succ]
  refine vl_nil ?_
  refine (th_n ?_)
  refine VC_seq ?_
  refine VC_region ?_
  refine vl_v (q_idxA (m := 13) Try.underlying103 sz73 rfl rfl (by omega) (r := _) (by rw [Nat.mul_one, Nat.zero_add])) rfl ?_
  refine vl_v (q_load 2 Try.underlying73 rfl rfl rfl (u32s_at (by simp only [List.length_set, List.length_append, List.length_replicate, u32s_length, bys_length, *] <;> first | done | omega))) rfl ?_
  refine vl_v (q_move rfl) rfl ?_
  refine vl_v (q_as (v := vU64 (UInt64.ofNat (t.toNat / 2 ^ 32))) (q_shr_u64 (m := 32) rfl rfl) rfl) rfl ?_
  refine vl_v (q_conv_k (r := ((UInt32.ofNat (t.toNat / 2 ^ 32)).toNat : Int)) Try.underlying62 Try.underlying73 rfl (by have ht := UInt64.toNat_lt t; rw [IntKind.wrap_u32, UInt32.toNat_ofNat', UInt64.toNat_ofNat']; omega)) rfl ?_
  refine vl_v (q_xor_u32 rfl rfl) rfl ?_
  refine vl_v (q_idxA (m := 13) Try.underlying103 sz73 rfl rfl (by omega) (r := _) (by rw [Nat.mul_one, Nat.zero_add])) rfl ?_
  refine l_stU32 2 rfl rfl rfl sz73 (by simp only [List.length_set, List.length_append, List.length_replicate, u32s_length, bys_length, *] <;> first | done | omega) ?_
  simp only [List.set_cons_zero, List.set_cons_succ]
  refine vl_nil ?_
  refine (th_n ?_)
  refine VC_seq ?_
  refine VC_seq ?_
  refine VC_region ?_
  refine vl_v (q_move rfl) rfl ?_
  refine vl_nil ?_
  refine (th_n ?_)
  refine VC_no (rfl) ?_
  refine VC_skip ?_
  refine (th_n ?_)
  refine VC_seq ?_
  refine VC_seq ?_
  refine VC_region ?_
  refine vl_v (q_move rfl) rfl ?_
  refine vl_nil ?_
  refine (th_n ?_)
  refine VC_block ?_
  refine VC_loop (ι := Nat) (fun i => i ≤ 16) (fun i => [(0, vP bh 0), (1, vP bb o), (8, vP b8 0), (9, vP b9 0), (44, vN i)]) (fun i => .blk b9 103 (u32s (wordsB blk i)) :: .blk b8 103 (u32s v0) :: .blk bh 85 (u32s h) :: .blk bb T c :: R) (fun i => 16 - i) 0 (by omega) (Sub.cons (s := 0) rfl (Sub.cons (s := 1) rfl (Sub.cons (s := 8) rfl (Sub.cons (s := 9) rfl (Sub.cons (s := 44) rfl (Sub.nil _)))))) (fun w' H => by rw [hve]; exact St.pickR 5 H (ks := [1, 2, 3, 4]) (by decide) (by decide) rfl rfl) ?_
  rintro i hp
  have hwi := wordsB_length blk i
  refine VC_seq ?_
  refine VC_region ?_
  refine vl_v (q_lss_n (q := 16) Try.underlying3 rfl rfl) rfl ?_
  refine vl_nil ?_
  refine (th_n ?_)
  refine VC_seq ?_
  refine VC_cond rfl (fun ht45 => ?_) (fun ht45 => ?_)
  · skip
    have ht45 := of_decide_eq_true ht45
    refine VC_skip ?_
    refine (th_n ?_)
    refine VC_seq ?_
    refine VC_block ?_
    refine VC_seq ?_
    refine VC_region ?_
    refine vl_v (q_move rfl) rfl ?_
    refine vl_v (q_assign rfl) rfl ?_
    refine vl_nil ?_
    refine (th_n ?_)
    refine VC_region ?_
    refine vl_v (q_move rfl) rfl ?_
    refine vl_v (q_move rfl) rfl ?_
    refine vl_v (q_nilck rfl) rfl ?_
    refine vl_v (q_move rfl) rfl ?_
    refine vl_v (q_mul_n (p := 4) rfl rfl (by omega)) rfl ?_
    refine vl_v (q_move rfl) rfl ?_
    refine vl_v (q_mul_n (p := 4) rfl rfl (by omega)) rfl ?_
    refine vl_v (q_add_n (q := 4) rfl rfl (by omega)) rfl ?_
    refine vl_v (q_slcA Try.underlying90 sz5 rfl ⟨_, rfl⟩ ⟨_, rfl⟩ rfl (.inl rfl) (by omega) (by omega) (by omega) (by omega) (by (try simp only [Nat.mul_one, Nat.zero_add, Nat.zero_mul, Nat.mul_zero, Nat.add_zero]) <;> rfl)) rfl ?_
    refine vl_v (q_callV Try.func64 rfl rfl rfl (fun w1 H1 => of4 (l := (blk.drop (4 * i)).take 4) 3 (o + 4 * i) _ _ H1 rfl (by rw [List.length_take, List.length_drop]; omega) (blkPart hc hb (by omega)) (by omega) (by omega))) rfl ?_
    refine vl_v (q_as (v := vU32 (word32 (blk.drop (4 * i)))) (q_conv_nu32 Try.underlying62 Try.underlying73 rfl) (by rw [List.take_take]; rfl)) rfl ?_
    refine vl_v (q_idxA Try.underlying103 sz73 rfl rfl (by omega) (r := _) (by rw [Nat.mul_one, Nat.zero_add])) rfl ?_
    refine l_stU32 0 rfl rfl rfl sz73 (by omega) ?_
    simp only [List.set_cons_zero, List.set_cons_succ]
    refine vl_nil ?_
    refine (bl_n (th_n ?_))
    refine VC_region ?_
    refine vl_v (q_add_n (q := 1) rfl rfl (by omega)) rfl ?_
    refine vl_v (q_move rfl) rfl ?_
    refine vl_nil ?_
    refine (th_n ?_)
    refine ⟨i + 1, by omega, by omega, (Sub.cons (s := 0) rfl (Sub.cons (s := 1) rfl (Sub.cons (s := 8) rfl (Sub.cons (s := 9) rfl (Sub.cons (s := 44) rfl (Sub.nil _)))))), fun w H => H⟩
  · skip
    have ht45 := of_decide_eq_false ht45
    obtain rfl : i = 16 := by omega
    rw [← hme]
    refine VC_exit ?_
    refine (th_x (th_x (bl_xs (th_n ?_))))
    refine VC_seq ?_
    refine VC_seq ?_
    refine VC_region ?_
    refine l_callP Try.func65 rfl rfl rfl (fun w1 H1 => rows_calls w1) rfl ?_
    intro b60
    refine vl_v (q_nilck rfl) rfl ?_
    refine vl_v (q_move rfl) rfl ?_
    refine vl_nil ?_
    refine (th_n ?_)
    refine VC_block ?_
    refine VC_loop (ι := Nat) (fun r => r ≤ 10) (fun r => [(0, vP bh 0), (8, vP b8 0), (9, vP b9 0), (60, vP b60 0), (62, vN r)]) (fun r => .blk b8 103 (u32s (rndsM v0 m16 r)) :: .blk b9 103 (u32s m16) :: .blk b60 111 (bys sRows.flatten) :: .blk bh 85 (u32s h) :: .blk bb T c :: R) (fun r => 10 - r) 0 (by omega) (Sub.cons (s := 0) rfl (Sub.cons (s := 8) rfl (Sub.cons (s := 9) rfl (Sub.cons (s := 60) rfl (Sub.cons (s := 62) rfl (Sub.nil _)))))) (fun w H => St.pickR 5 H (ks := [2, 1, 0, 3, 4]) (by decide) (by decide) rfl rfl) ?_
    rintro r hp
    have hrl := (rndsM_length v0 m16 r).trans hv0
    refine VC_seq ?_
    refine VC_region ?_
    refine vl_v (q_lss_n (q := 10) Try.underlying3 rfl rfl) rfl ?_
    refine vl_nil ?_
    refine (th_n ?_)
    refine VC_seq ?_
    refine VC_cond rfl (fun ht63 => ?_) (fun ht63 => ?_)
    · skip
      have ht63 := of_decide_eq_true ht63
      refine VC_skip ?_
      refine (th_n ?_)
      refine VC_seq ?_
      refine VC_block ?_
      refine VC_seq ?_
      refine VC_region ?_
      have hs16 := sRow_length (r := r) (by omega)
      refine vl_v (q_nilck rfl) rfl ?_
      refine vl_v (q_idxA Try.underlying111 sz106 rfl rfl (by omega) rfl) rfl ?_
      refine vl_v (q_loadsAt 2 Try.underlying106 rfl rfl rfl sz106 (by exact rowPart (by omega)) (by simp only [u32s_length, bys_length, i64s_length, List.length_append]; omega)) rfl ?_
      refine l_allocA zr106 rfl ?_
      intro b13
      refine l_storeA 0 rfl rfl rfl sz106 (by simp only [u32s_length, bys_length, i64s_length, List.length_append]; omega) (by with_reducible first | exact bys_one _ | exact u32s_one _ | exact u64s_one _ | exact i64s_one _ | exact n64s_one _ | assumption) (by simp only [List.length_set, List.length_append, List.length_replicate, u32s_length, bys_length, *] <;> first | done | omega) ?_
      simp only [List.set_cons_zero, List.set_cons_succ]
      refine vl_nil ?_
      refine (th_n ?_)
      refine VC_seq ?_
      refine VC_seq ?_
      refine VC_region ?_
      refine vl_v (q_move rfl) rfl ?_
      refine vl_nil ?_
      refine (th_n ?_)
      refine VC_block ?_
      refine VC_loop (ι := Nat) (fun k => k ≤ 4) (fun k => [(0, vP bh 0), (8, vP b8 0), (9, vP b9 0), (13, vP b13 0), (60, vP b60 0), (62, vN r), (67, vN k)]) (fun k => .blk b8 103 (u32s (colsM (rndsM v0 m16 r) m16 r k)) :: .blk b13 106 (bys (sRow r)) :: .blk b9 103 (u32s m16) :: .blk b60 111 (bys sRows.flatten) :: .blk bh 85 (u32s h) :: .blk bb T c :: R) (fun k => 4 - k) 0 (by omega) (Sub.cons (s := 0) rfl (Sub.cons (s := 8) rfl (Sub.cons (s := 9) rfl (Sub.cons (s := 13) rfl (Sub.cons (s := 60) rfl (Sub.cons (s := 62) rfl (Sub.cons (s := 67) rfl (Sub.nil _)))))))) (fun w H => St.pickR 6 H (ks := [1, 0, 2, 3, 4, 5]) (by decide) (by decide) rfl rfl) ?_
      rintro k hp
      have hcl4 := (colsM_length (rndsM v0 m16 r) m16 r k).trans hrl
      refine VC_seq ?_
      refine VC_region ?_
      refine vl_v (q_lss_n (q := 4) Try.underlying3 rfl rfl) rfl ?_
      refine vl_nil ?_
      refine (th_n ?_)
      refine VC_seq ?_
      refine VC_cond rfl (fun ht68 => ?_) (fun ht68 => ?_)
      · skip
        have ht68 := of_decide_eq_true ht68
        refine VC_skip ?_
        refine (th_n ?_)
        refine VC_seq ?_
        refine VC_block ?_
        refine VC_seq ?_
        refine VC_region ?_
        refine vl_v (q_move rfl) rfl ?_
        refine vl_v (q_assign rfl) rfl ?_
        refine vl_nil ?_
        refine (th_n ?_)
        have s1 : ((sRow r).getD (2 * k) 0).toNat < 16 := sg_lt (by omega) (by omega)
        have s2 : ((sRow r).getD (2 * k + 1) 0).toNat < 16 := sg_lt (by omega) (by omega)
        refine VC_drawV 24 [[], [0], [], [2], [3], [], [5], [6], [], [8], [9], [], [11], [12], [13], [14], [15], [], [17], [18], [19], [20], [21], [22], [1, 4, 7, 10, 16, 23]] [[], [0], [], [2], [2, 3], [], [5], [5, 6], [], [8], [8, 9], [], [11], [11, 12], [11, 12, 13], [11, 12, 13, 14], [11, 12, 13, 14, 15], [], [17], [17, 18], [17, 18, 19], [17, 18, 19, 20], [17, 18, 19, 20, 21], [17, 18, 19, 20, 21, 22], [0, 1, 2, 3, 4, 5, 6, 7, 8, 9, 10, 11, 12, 13, 14, 15, 16, 17, 18, 19, 20, 21, 22, 23]] rfl (by kernel_rfl) ?_
        refine qv_v (q_move rfl) ?_
        refine qv_v (q_idxA Try.underlying103 sz73 rfl rfl (by omega) (r := _) (by rw [Nat.mul_one, Nat.zero_add])) ?_
        refine qv_v (q_move rfl) ?_
        refine qv_v (q_add_n (p := 4) rfl rfl (by omega)) ?_
        refine qv_v (q_idxA Try.underlying103 sz73 rfl rfl (by omega) (r := _) (by rw [Nat.mul_one, Nat.zero_add])) ?_
        refine qv_v (q_move rfl) ?_
        refine qv_v (q_add_n (p := 8) rfl rfl (by omega)) ?_
        refine qv_v (q_idxA Try.underlying103 sz73 rfl rfl (by omega) (r := _) (by rw [Nat.mul_one, Nat.zero_add])) ?_
        refine qv_v (q_move rfl) ?_
        refine qv_v (q_add_n (p := 12) rfl rfl (by omega)) ?_
        refine qv_v (q_idxA Try.underlying103 sz73 rfl rfl (by omega) (r := _) (by rw [Nat.mul_one, Nat.zero_add])) ?_
        refine qv_v (q_move rfl) ?_
        refine qv_v (q_mul_n (p := 2) rfl rfl (by omega)) ?_
        refine qv_v (q_idxA Try.underlying106 sz5 rfl rfl (by omega) (r := _) (by rw [Nat.mul_one, Nat.zero_add])) ?_
        refine qv_v (q_load 1 Try.underlying5 rfl rfl rfl (bys_at (by omega))) ?_
        refine qv_v (q_idxA Try.underlying103 sz73 rfl rfl (by omega) (r := _) (by rw [Nat.mul_one, Nat.zero_add])) ?_
        refine qv_v (q_load 2 Try.underlying73 rfl rfl rfl (u32s_at (by omega))) ?_
        refine qv_v (q_move rfl) ?_
        refine qv_v (q_mul_n (p := 2) rfl rfl (by omega)) ?_
        refine qv_v (q_add_n (q := 1) rfl rfl (by omega)) ?_
        refine qv_v (q_idxA Try.underlying106 sz5 rfl rfl (by omega) (r := _) (by rw [Nat.mul_one, Nat.zero_add])) ?_
        refine qv_v (q_load 1 Try.underlying5 rfl rfl rfl (bys_at (by omega))) ?_
        refine qv_v (q_idxA Try.underlying103 sz73 rfl rfl (by omega) (r := _) (by rw [Nat.mul_one, Nat.zero_add])) ?_
        refine qv_v (q_load 2 Try.underlying73 rfl rfl rfl (u32s_at (by omega))) ?_
        refine qv_end ?_
        refine VL.keep (Sub.cons (s := 0) rfl (Sub.cons (s := 8) rfl (Sub.cons (s := 9) rfl (Sub.cons (s := 13) rfl (Sub.cons (s := 60) rfl (Sub.cons (s := 62) rfl (Sub.cons (s := 67) rfl (Sub.cons (s := 68) rfl (Sub.cons (s := 14) rfl (Sub.cons (s := 71) rfl (Sub.cons (s := 74) rfl (Sub.cons (s := 77) rfl (Sub.cons (s := 80) rfl (Sub.cons (s := 86) rfl (Sub.cons (s := 93) rfl (Sub.nil _)))))))))))))))) ?_
        refine l_callE Try.func66 rfl rfl rfl (fun w1 H1 => mix_calls (colsM (rndsM v0 m16 r) m16 r k) k (4 + k) (8 + k) (12 + k) _ _ b8 hcl4 (by omega) (by omega) (by omega) (by omega) w1 H1) rfl ?_
        refine vl_nil ?_
        refine (qn_n (bl_n (th_n ?_)))
        refine VC_region ?_
        refine vl_v (q_add_n (q := 1) rfl rfl (by omega)) rfl ?_
        refine vl_v (q_move rfl) rfl ?_
        refine vl_nil ?_
        refine (th_n ?_)
        refine ⟨k + 1, by omega, by omega, (Sub.cons (s := 0) rfl (Sub.cons (s := 8) rfl (Sub.cons (s := 9) rfl (Sub.cons (s := 13) rfl (Sub.cons (s := 60) rfl (Sub.cons (s := 62) rfl (Sub.cons (s := 67) rfl (Sub.nil _)))))))), fun w H => H⟩
      · skip
        have ht68 := of_decide_eq_false ht68
        obtain rfl : k = 4 := by omega
        refine VC_exit ?_
        refine (th_x (th_x (bl_xs (th_n ?_))))
        refine VC_seq ?_
        refine VC_region ?_
        refine vl_v (q_move rfl) rfl ?_
        refine vl_nil ?_
        refine (th_n ?_)
        refine VC_block ?_
        refine VC_loop (ι := Nat) (fun q => q ≤ 4) (fun q => [(0, vP bh 0), (8, vP b8 0), (9, vP b9 0), (13, vP b13 0), (60, vP b60 0), (62, vN r), (96, vN q)]) (fun q => .blk b8 103 (u32s (diagsM (colsM (rndsM v0 m16 r) m16 r 4) m16 r q)) :: .blk b13 106 (bys (sRow r)) :: .blk b9 103 (u32s m16) :: .blk b60 111 (bys sRows.flatten) :: .blk bh 85 (u32s h) :: .blk bb T c :: R) (fun q => 4 - q) 0 (by omega) (Sub.cons (s := 0) rfl (Sub.cons (s := 8) rfl (Sub.cons (s := 9) rfl (Sub.cons (s := 13) rfl (Sub.cons (s := 60) rfl (Sub.cons (s := 62) rfl (Sub.cons (s := 96) rfl (Sub.nil _)))))))) (fun w H => H) ?_
        rintro q hp
        have hdl := (diagsM_length (colsM (rndsM v0 m16 r) m16 r 4) m16 r q).trans hcl4
        refine VC_seq ?_
        refine VC_region ?_
        refine vl_v (q_lss_n (q := 4) Try.underlying3 rfl rfl) rfl ?_
        refine vl_nil ?_
        refine (th_n ?_)
        refine VC_seq ?_
        refine VC_cond rfl (fun ht97 => ?_) (fun ht97 => ?_)
        · skip
          have ht97 := of_decide_eq_true ht97
          refine VC_skip ?_
          refine (th_n ?_)
          refine VC_seq ?_
          refine VC_block ?_
          refine VC_seq ?_
          refine VC_region ?_
          refine vl_v (q_move rfl) rfl ?_
          refine vl_v (q_assign rfl) rfl ?_
          refine vl_nil ?_
          refine (th_n ?_)
          have s1 : ((sRow r).getD (8 + 2 * q) 0).toNat < 16 := sg_lt (by omega) (by omega)
          have s2 : ((sRow r).getD (9 + 2 * q) 0).toNat < 16 := sg_lt (by omega) (by omega)
          refine VC_drawV 31 [[], [0], [], [2], [3], [4], [5], [], [7], [8], [9], [10], [], [12], [13], [14], [15], [], [17], [18], [19], [20], [21], [22], [], [24], [25], [26], [27], [28], [29], [1, 6, 11, 16, 23, 30]] [[], [0], [], [2], [2, 3], [2, 3, 4], [2, 3, 4, 5], [], [7], [7, 8], [7, 8, 9], [7, 8, 9, 10], [], [12], [12, 13], [12, 13, 14], [12, 13, 14, 15], [], [17], [17, 18], [17, 18, 19], [17, 18, 19, 20], [17, 18, 19, 20, 21], [17, 18, 19, 20, 21, 22], [], [24], [24, 25], [24, 25, 26], [24, 25, 26, 27], [24, 25, 26, 27, 28], [24, 25, 26, 27, 28, 29], [0, 1, 2, 3, 4, 5, 6, 7, 8, 9, 10, 11, 12, 13, 14, 15, 16, 17, 18, 19, 20, 21, 22, 23, 24, 25, 26, 27, 28, 29, 30]] rfl (by kernel_rfl) ?_
          refine qv_v (q_move rfl) ?_
          refine qv_v (q_idxA Try.underlying103 sz73 rfl rfl (by omega) (r := _) (by rw [Nat.mul_one, Nat.zero_add])) ?_
          refine qv_v (q_move rfl) ?_
          refine qv_v (q_add_n (q := 1) rfl rfl (by omega)) ?_
          refine qv_v (q_rem_n (q := 4) rfl rfl (by omega)) ?_
          refine qv_v (q_add_n (p := 4) rfl rfl (by omega)) ?_
          refine qv_v (q_idxA Try.underlying103 sz73 rfl rfl (by omega) (r := _) (by rw [Nat.mul_one, Nat.zero_add])) ?_
          refine qv_v (q_move rfl) ?_
          refine qv_v (q_add_n (q := 2) rfl rfl (by omega)) ?_
          refine qv_v (q_rem_n (q := 4) rfl rfl (by omega)) ?_
          refine qv_v (q_add_n (p := 8) rfl rfl (by omega)) ?_
          refine qv_v (q_idxA Try.underlying103 sz73 rfl rfl (by omega) (r := _) (by rw [Nat.mul_one, Nat.zero_add])) ?_
          refine qv_v (q_move rfl) ?_
          refine qv_v (q_add_n (q := 3) rfl rfl (by omega)) ?_
          refine qv_v (q_rem_n (q := 4) rfl rfl (by omega)) ?_
          refine qv_v (q_add_n (p := 12) rfl rfl (by omega)) ?_
          refine qv_v (q_idxA Try.underlying103 sz73 rfl rfl (by omega) (r := _) (by rw [Nat.mul_one, Nat.zero_add])) ?_
          refine qv_v (q_move rfl) ?_
          refine qv_v (q_mul_n (p := 2) rfl rfl (by omega)) ?_
          refine qv_v (q_add_n (p := 8) rfl rfl (by omega)) ?_
          refine qv_v (q_idxA Try.underlying106 sz5 rfl rfl (by omega) (r := _) (by rw [Nat.mul_one, Nat.zero_add])) ?_
          refine qv_v (q_load 1 Try.underlying5 rfl rfl rfl (bys_at (by omega))) ?_
          refine qv_v (q_idxA Try.underlying103 sz73 rfl rfl (by omega) (r := _) (by rw [Nat.mul_one, Nat.zero_add])) ?_
          refine qv_v (q_load 2 Try.underlying73 rfl rfl rfl (u32s_at (by omega))) ?_
          refine qv_v (q_move rfl) ?_
          refine qv_v (q_mul_n (p := 2) rfl rfl (by omega)) ?_
          refine qv_v (q_add_n (p := 9) rfl rfl (by omega)) ?_
          refine qv_v (q_idxA Try.underlying106 sz5 rfl rfl (by omega) (r := _) (by rw [Nat.mul_one, Nat.zero_add])) ?_
          refine qv_v (q_load 1 Try.underlying5 rfl rfl rfl (bys_at (by omega))) ?_
          refine qv_v (q_idxA Try.underlying103 sz73 rfl rfl (by omega) (r := _) (by rw [Nat.mul_one, Nat.zero_add])) ?_
          refine qv_v (q_load 2 Try.underlying73 rfl rfl rfl (u32s_at (by omega))) ?_
          refine qv_end ?_
          refine VL.keep (Sub.cons (s := 0) rfl (Sub.cons (s := 8) rfl (Sub.cons (s := 9) rfl (Sub.cons (s := 13) rfl (Sub.cons (s := 60) rfl (Sub.cons (s := 62) rfl (Sub.cons (s := 96) rfl (Sub.cons (s := 97) rfl (Sub.cons (s := 15) rfl (Sub.cons (s := 100) rfl (Sub.cons (s := 105) rfl (Sub.cons (s := 110) rfl (Sub.cons (s := 115) rfl (Sub.cons (s := 122) rfl (Sub.cons (s := 129) rfl (Sub.nil _)))))))))))))))) ?_
          refine l_callE Try.func66 rfl rfl rfl (fun w1 H1 => mix_calls (diagsM (colsM (rndsM v0 m16 r) m16 r 4) m16 r q) q (4 + (q + 1) % 4) (8 + (q + 2) % 4) (12 + (q + 3) % 4) _ _ b8 hdl (by omega) (by omega) (by omega) (by omega) w1 H1) rfl ?_
          refine vl_nil ?_
          refine (qn_n (bl_n (th_n ?_)))
          refine VC_region ?_
          refine vl_v (q_add_n (q := 1) rfl rfl (by omega)) rfl ?_
          refine vl_v (q_move rfl) rfl ?_
          refine vl_nil ?_
          refine (th_n ?_)
          refine ⟨q + 1, by omega, by omega, (Sub.cons (s := 0) rfl (Sub.cons (s := 8) rfl (Sub.cons (s := 9) rfl (Sub.cons (s := 13) rfl (Sub.cons (s := 60) rfl (Sub.cons (s := 62) rfl (Sub.cons (s := 96) rfl (Sub.nil _)))))))), fun w H => H⟩
        · skip
          have ht97 := of_decide_eq_false ht97
          obtain rfl : q = 4 := by omega
          refine VC_exit ?_
          refine (th_x (th_x (bl_xs (bl_n (th_n ?_)))))
          refine VC_region ?_
          refine vl_v (q_add_n (q := 1) rfl rfl (by omega)) rfl ?_
          refine vl_v (q_move rfl) rfl ?_
          refine vl_nil ?_
          refine (th_n ?_)
          refine ⟨r + 1, by omega, by omega, (Sub.cons (s := 0) rfl (Sub.cons (s := 8) rfl (Sub.cons (s := 9) rfl (Sub.cons (s := 60) rfl (Sub.cons (s := 62) rfl (Sub.nil _)))))), fun w H => St.pickR 6 H (ks := [0, 2, 3, 4, 5]) (by decide) (by decide) rfl rfl⟩
    · skip
      have ht63 := of_decide_eq_false ht63
      obtain rfl : r = 10 := by omega
      refine VC_exit ?_
      refine (th_x (th_x (bl_xs (th_n ?_))))
      refine VC_seq ?_
      refine VC_region ?_
      refine vl_v (q_move rfl) rfl ?_
      refine vl_nil ?_
      refine (th_n ?_)
      refine VC_block ?_
      refine VC_loop (ι := Nat) (fun z => z ≤ 8) (fun z => [(0, vP bh 0), (8, vP b8 0), (133, vN z)]) (fun z => .blk b8 103 (u32s (rndsM v0 m16 10)) :: .blk bh 85 (u32s (xorV h (rndsM v0 m16 10) z)) :: .blk bb T c :: R) (fun z => 8 - z) 0 (by omega) (Sub.cons (s := 0) rfl (Sub.cons (s := 8) rfl (Sub.cons (s := 133) rfl (Sub.nil _)))) (fun w H => St.pickR 5 H (ks := [0, 3, 4]) (by decide) (by decide) rfl rfl) ?_
      rintro z hp
      have hxl := (xorV_length h (rndsM v0 m16 10) z).trans hh
      refine VC_seq ?_
      refine VC_region ?_
      refine vl_v (q_lss_n (q := 8) Try.underlying3 rfl rfl) rfl ?_
      refine vl_nil ?_
      refine (th_n ?_)
      refine VC_seq ?_
      refine VC_cond rfl (fun ht134 => ?_) (fun ht134 => ?_)
      · skip
        have ht134 := of_decide_eq_true ht134
        refine VC_skip ?_
        refine (th_n ?_)
        refine VC_seq ?_
        refine VC_block ?_
        refine VC_seq ?_
        refine VC_region ?_
        refine vl_v (q_move rfl) rfl ?_
        refine vl_v (q_assign rfl) rfl ?_
        refine vl_nil ?_
        refine (th_n ?_)
        refine VC_drawV 15 [[], [], [0], [2, 1], [3], [], [5], [6], [], [8], [9], [10], [7, 11], [4, 12], [0], [14, 1, 0, 2, 3, 4, 5, 6, 7, 8, 9, 10, 11, 12, 13], [15, 13, 0, 1, 2, 3, 4, 5, 6, 7, 8, 9, 10, 11, 12]] [[], [], [0], [0, 1, 2], [0, 1, 2, 3], [], [5], [5, 6], [], [8], [8, 9], [8, 9, 10], [5, 6, 7, 8, 9, 10, 11], [0, 1, 2, 3, 4, 5, 6, 7, 8, 9, 10, 11, 12], [0], [0, 1, 2, 3, 4, 5, 6, 7, 8, 9, 10, 11, 12, 13, 14], [0, 1, 2, 3, 4, 5, 6, 7, 8, 9, 10, 11, 12, 13, 14, 15]] rfl (by kernel_rfl) ?_
        refine qv_v (q_move rfl) ?_
        refine qv_v (q_move rfl) ?_
        refine qv_v (q_nilck rfl) ?_
        refine qv_v (q_idxA Try.underlying85 sz73 rfl rfl (by omega) (r := _) (by rw [Nat.mul_one, Nat.zero_add])) ?_
        refine qv_v (q_load 1 Try.underlying73 rfl rfl rfl (u32s_at (by omega))) ?_
        refine qv_v (q_move rfl) ?_
        refine qv_v (q_idxA Try.underlying103 sz73 rfl rfl (by omega) (r := _) (by rw [Nat.mul_one, Nat.zero_add])) ?_
        refine qv_v (q_load 0 Try.underlying73 rfl rfl rfl (u32s_at (by omega))) ?_
        refine qv_v (q_move rfl) ?_
        refine qv_v (q_add_n (q := 8) rfl rfl (by omega)) ?_
        refine qv_v (q_idxA Try.underlying103 sz73 rfl rfl (by omega) (r := _) (by rw [Nat.mul_one, Nat.zero_add])) ?_
        refine qv_v (q_load 0 Try.underlying73 rfl rfl rfl (u32s_at (by omega))) ?_
        refine qv_v (q_xor_u32 rfl rfl) ?_
        refine qv_v (q_xor_u32 rfl rfl) ?_
        refine qv_v (q_nilck rfl) ?_
        refine qv_end ?_
        refine VL.keep (Sub.cons (s := 0) rfl (Sub.cons (s := 8) rfl (Sub.cons (s := 133) rfl (Sub.cons (s := 134) rfl (Sub.cons (s := 16) rfl (Sub.cons (s := 137) rfl (Sub.cons (s := 149) rfl (Sub.cons (s := 150) rfl (Sub.nil _))))))))) ?_
        refine vl_v (q_idxA Try.underlying85 sz73 rfl rfl (by omega) (r := _) (by rw [Nat.mul_one, Nat.zero_add])) rfl ?_
        refine l_stU32 1 rfl rfl rfl sz73 (by omega) ?_
        simp only [List.set_cons_zero, List.set_cons_succ]
        refine vl_nil ?_
        refine (qn_n (bl_n (th_n ?_)))
        refine VC_region ?_
        refine vl_v (q_add_n (q := 1) rfl rfl (by omega)) rfl ?_
        refine vl_v (q_move rfl) rfl ?_
        refine vl_nil ?_
        refine (th_n ?_)
        refine ⟨z + 1, by omega, by omega, (Sub.cons (s := 0) rfl (Sub.cons (s := 8) rfl (Sub.cons (s := 133) rfl (Sub.nil _)))), fun w H => H⟩
      · skip
        have ht134 := of_decide_eq_false ht134
        obtain rfl : z = 8 := by omega
        refine VC_exit ?_
        refine (th_x (th_x (bl_xs ?_)))
        refine ⟨_, res0 rfl, ?_⟩
        exact ⟨rfl, [_], by rw [into, ← hve, ← hme]; rfl⟩
end Go.Proofs.Ytabmfndiepmcgaa
end
section
namespace Go.Proofs.Ytabmfndiepmcgaa
open Go.RowKit Go.PBYtabmfndiepmcgaa
set_option linter.unusedVariables false
set_option linter.unusedSimpArgs false
set_option maxRecDepth 10000
set_option maxHeartbeats 2000000 in
theorem mac_calls (key b : List UInt8) (A B : Option Addr) (ca cb ka : Nat) (hka : ka = key.length) (h0 : 0 < key.length) (hk : key.length ≤ 32) (hb : b.length ≤ 1000000) (w : World) (hA : SlAt w A (bys key)) (hB : SlAt w B (bys b)) (hca : key.length ≤ ca) (hcb : b.length ≤ cb) :
    Calls Try.prog 32 #[.slice A ka ca, .slice B b.length cb] w fun e w' => e = .returned (.tuple #[.agg (bys (macB key b)).toArray, .int .i64 0]) ∧ Kept [] w w' := by
  subst hka
  have hN := allK_length b h0 hk
  have hpk := padB_length (l := key) (by omega)
  obtain ⟨al, hal⟩ : ∃ al, al = allK key b := ⟨_, rfl⟩
  rw [← hal] at hN
  have hal' := hal
  rw [allK_eq b h0] at hal'
  refine enter (n := 71) (R := fun e L => e = .returned (.tuple #[.agg (bys (macB key b)).toArray, .int .i64 0])) [.slice A key.length ca, .slice B b.length cb] Try.func32 rfl rfl rfl (St.refl w) ?_ (fun e w' L' h H => ⟨h, H.kept⟩)
  refine VC_seq ?_
  refine VC_region ?_
  refine l_allocA zr23 rfl ?_
  intro b4
  refine vl_v (q_assign rfl) rfl ?_
  refine vl_nil ?_
  refine (th_n ?_)
  refine VC_seq ?_
  refine VC_seq ?_
  refine VC_region ?_
  refine vl_v (q_move rfl) rfl ?_
  refine vl_v (q_lenS Try.underlying45 rfl) rfl ?_
  refine vl_v (q_gtr_n (q := 32) Try.underlying3 rfl rfl) rfl ?_
  refine vl_nil ?_
  refine (th_n ?_)
  refine VC_cond rfl (fun ht14 => ?_) (fun ht14 => ?_)
  · skip
    have ht14 := of_decide_eq_true ht14
    exfalso; omega
  · skip
    have ht14 := of_decide_eq_false ht14
    refine VC_skip ?_
    refine (th_n ?_)
    refine VC_seq ?_
    refine VC_region ?_
    refine vl_v (q_callV Try.func52 rfl rfl rfl (fun w1 H1 => first_calls w1)) rfl ?_
    refine l_allocA zr85 rfl ?_
    intro b6
    refine l_storeA 0 rfl rfl rfl sz85 (by rfl) (by with_reducible first | exact bys_one _ | exact u32s_one _ | exact u64s_one _ | exact i64s_one _ | exact n64s_one _ | assumption) (by simp only [zs, zr, zm, za, zb, zu, zw, zi, zt, zd, zc, zn, *] <;> first | done | omega) ?_
    simp only [List.set_cons_zero, List.set_cons_succ]
    refine vl_nil ?_
    refine (th_n ?_)
    refine VC_seq ?_
    refine VC_region ?_
    refine vl_v (q_idxA (m := 0) Try.underlying85 sz73 rfl rfl (by omega) (r := _) (by rw [Nat.mul_one, Nat.zero_add])) rfl ?_
    refine vl_v (q_load 0 Try.underlying73 rfl rfl rfl (u32s_at (by decide))) rfl ?_
    refine vl_v (q_move rfl) rfl ?_
    refine vl_v (q_lenS Try.underlying45 rfl) rfl ?_
    refine vl_v (q_conv_nu32 Try.underlying3 Try.underlying73 rfl) rfl ?_
    refine vl_v (q_shl_u32 (m := 8) rfl rfl) rfl ?_
    refine vl_v (q_xor_u32 (p := UInt32.ofNat 16842784) rfl rfl) rfl ?_
    refine vl_v (q_xor_u32 rfl rfl) rfl ?_
    refine vl_v (q_idxA (m := 0) Try.underlying85 sz73 rfl rfl (by omega) (r := _) (by rw [Nat.mul_one, Nat.zero_add])) rfl ?_
    refine l_stU32 0 rfl rfl rfl sz73 (by decide) ?_
    simp only [List.set_cons_zero, List.set_cons_succ]
    rw [show iv.set 0 (iv.getD 0 0 ^^^ (UInt32.ofNat 16842784 ^^^ UInt32.ofNat ((UInt32.ofNat key.length).toNat * 2 ^ (min 8 32)))) = hKey key.length from rfl]
    refine vl_nil ?_
    refine (th_n ?_)
    refine VC_seq ?_
    refine VC_region ?_
    refine vl_v (q_assign rfl) rfl ?_
    refine vl_nil ?_
    refine (th_n ?_)
    refine VC_seq ?_
    refine VC_seq ?_
    refine VC_region ?_
    refine vl_v (q_move rfl) rfl ?_
    refine vl_v (q_lenS Try.underlying45 rfl) rfl ?_
    refine vl_v (q_gtr_n (q := 0) Try.underlying3 rfl rfl) rfl ?_
    refine vl_nil ?_
    refine (th_n ?_)
    refine VC_cond rfl (fun ht28 => ?_) (fun ht28 => ?_)
    · skip
      have ht28 := of_decide_eq_true ht28
      refine VC_seq ?_
      refine VC_region ?_
      refine l_makeZ (m := 64) Try.underlying45 in5 rfl rfl rfl (by omega) (by unfold maxLen; omega) rfl (repB _) ?_
      intro b29
      refine vl_v (q_assign rfl) rfl ?_
      refine vl_nil ?_
      refine (th_n ?_)
      refine VC_region ?_
      refine vl_v (q_move rfl) rfl ?_
      refine vl_v (q_move rfl) rfl ?_
      refine l_copy 0 rfl rfl rfl Try.underlying45 Try.underlying45 sz5 (Reads.old hA) (by simp only [zs, zr, zm, za, zb, zu, zw, zi, zt, zd, zc, zn, *] <;> first | done | omega) (by with_reducible first | exact bys_one _ | exact u32s_one _ | exact u64s_one _ | exact i64s_one _ | exact n64s_one _ | assumption) (by simp only [zs, zr, zm, za, zb, zu, zw, zi, zt, zd, zc, zn, *] <;> first | done | omega) rfl ?_
      simp only [List.set_cons_zero, List.set_cons_succ]
      rw [cp3 key (by omega)]
      refine vl_nil ?_
      refine (th_n ?_)
      refine VC_seq ?_
      refine VC_toRow (m := 64) (by rw [bys_length, hpk]) (by unfold maxLen; omega) ?_
      refine VC_region ?_
      refine vl_v (q_move rfl) rfl ?_
      refine vl_v (q_move rfl) rfl ?_
      refine l_append 0 rfl rfl rfl Try.underlying45 Try.underlying45 in5 rfl (by decide) (Reads.old hB) (by simp only [zb, zu, zw, zi, za]; omega) (by with_reducible first | exact bys_one _ | exact u32s_one _ | exact u64s_one _ | exact i64s_one _ | exact n64s_one _ | assumption) (by omega) (by omega) rfl ?_
      intro A35 c35 hc35
      simp only [List.set_cons_zero, List.set_cons_succ, ← bys_append, ← u32s_append, ← u64s_append, ← i64s_append, List.nil_append, Nat.zero_add]
      rw [← hal']
      refine vl_v (q_assign rfl) rfl ?_
      refine vl_nil ?_
      refine (th_n ?_)
      refine VC_seq ?_
      refine VC_rowBlk (by omega) ?_
      intro bA more eA
      subst eA
      refine VC_region ?_
      refine vl_v (q_assign rfl) rfl ?_
      refine vl_nil ?_
      refine (th_n ?_)
      refine VC_seq ?_
      refine VC_block ?_
      refine VC_loop (ι := Nat) (fun j => 64 * j < al.length) (fun j => [(1, .slice B b.length cb), (4, vP b4 0), (5, .int .i64 0), (6, vP b6 0), (7, .slice (some ⟨bA, 64 * j, none⟩) (64 + b.length - 64 * j) (c35 - 64 * j)), (8, vU64 (UInt64.ofNat (64 * j)))]) (fun j => [.blk b6 85 (u32s (hs (hKey key.length) al j)), .blk bA 5 (bys al ++ more), .blk b4 23 (bys (List.replicate 32 0))]) (fun j => al.length - 64 * j) 0 (by omega) (Sub.cons (s := 1) rfl (Sub.cons (s := 4) rfl (Sub.cons (s := 5) rfl (Sub.cons (s := 6) rfl (Sub.cons (s := 7) rfl (Sub.cons (s := 8) rfl (Sub.nil _))))))) (fun w H => St.pick H (ks := [1, 0, 2]) (by decide) rfl) ?_
      rintro j hp
      have hhl := (hs_length (hKey key.length) al j).trans (hKey_length key.length)
      refine VC_seq ?_
      refine VC_seq ?_
      refine VC_region ?_
      refine vl_v (q_move rfl) rfl ?_
      refine vl_v (q_lenS Try.underlying45 rfl) rfl ?_
      refine vl_v (q_gtr_n (q := 64) Try.underlying3 rfl rfl) rfl ?_
      refine vl_nil ?_
      refine (th_n ?_)
      refine VC_cond rfl (fun ht38 => ?_) (fun ht38 => ?_)
      · skip
        have ht38 := of_decide_eq_true ht38
        refine VC_skip ?_
        refine (th_n ?_)
        refine VC_block ?_
        refine VC_seq ?_
        refine VC_region ?_
        refine vl_v (q_move rfl) rfl ?_
        refine vl_v (q_as (v := vU64 (UInt64.ofNat (64 * (j + 1)))) (q_add_u64 (q := UInt64.ofNat 64) rfl rfl) (by rw [ofNat64_add, show 64 * (j + 1) = 64 * j + 64 by omega])) rfl ?_
        refine vl_v (q_assign rfl) rfl ?_
        refine vl_nil ?_
        refine (th_n ?_)
        refine VC_seq ?_
        refine VC_region ?_
        refine vl_v (q_move rfl) rfl ?_
        refine vl_v (q_s2a Try.underlying90 rfl (by omega)) rfl ?_
        refine vl_v (q_move rfl) rfl ?_
        refine l_callE Try.func53 rfl rfl rfl (fun w1 H1 => into_false (hs (hKey key.length) al j) ((al.drop (64 * j)).take 64) (UInt64.ofNat (64 * (j + 1))) b6 bA (64 * j) hhl (by rw [List.length_take, List.length_drop]; omega) (chunkPart (by omega)) w1 H1) rfl ?_
        refine vl_nil ?_
        refine (th_n ?_)
        refine VC_region ?_
        refine vl_v (q_move rfl) rfl ?_
        refine vl_v (q_slcSb (l := 64) (r := 64 * (j + 1)) Try.underlying45 sz5 rfl ⟨_, rfl⟩ rfl rfl (.inl rfl) (by omega) (by omega) (by omega) (by omega) (by omega)) rfl ?_
        refine vl_v (q_assign rfl) rfl ?_
        refine vl_nil ?_
        refine (bl_n (th_n ?_))
        refine ⟨j + 1, by omega, by omega, (Sub.cons (s := 1) rfl (Sub.cons (s := 4) rfl (Sub.cons (s := 5) rfl (Sub.cons (s := 6) rfl (Sub.cons (s := 7) (by show _ = some (Value.slice _ (64 + b.length - 64 * (j + 1)) (c35 - 64 * (j + 1))); rw [show 64 + b.length - 64 * (j + 1) = 64 + b.length - 64 * j - 64 by omega, show c35 - 64 * (j + 1) = c35 - 64 * j - 64 by omega]; rfl) (Sub.cons (s := 8) rfl (Sub.nil _))))))), fun w H => H⟩
      · skip
        have ht38 := of_decide_eq_false ht38
        have hj : j = (al.length - 1) / 64 := by omega
        have hdl : (al.drop (64 * j)).length = 64 + b.length - 64 * j := by rw [List.length_drop]; omega
        have hdl' : (bys (al.drop (64 * j))).length = 64 + b.length - 64 * j := by rw [bys_length]; exact hdl
        refine VC_exit ?_
        refine (th_x (th_x (bl_xs (th_n ?_))))
        refine VC_seq ?_
        refine VC_region ?_
        refine l_allocA zr90 rfl ?_
        intro b9
        refine vl_nil ?_
        refine (th_n ?_)
        refine VC_seq ?_
        refine VC_region ?_
        refine vl_v (q_move rfl) rfl ?_
        refine vl_v (q_slcA Try.underlying90 sz5 rfl rfl rfl rfl (.inl rfl) (by omega) (by omega) (by omega) (by omega) (by (try simp only [Nat.mul_one, Nat.zero_add, Nat.zero_mul, Nat.mul_zero, Nat.add_zero]) <;> rfl)) rfl ?_
        refine vl_v (q_move rfl) rfl ?_
        refine l_copy 0 rfl rfl rfl Try.underlying45 Try.underlying45 sz5 (Reads.blkTake 2 (64 * j) (al.length - 64 * j) rfl (restPart (by omega))) (by omega) (by with_reducible first | exact bys_one _ | exact u32s_one _ | exact u64s_one _ | exact i64s_one _ | exact n64s_one _ | assumption) (by simp only [zs, zr, zm, za, zb, zu, zw, zi, zt, zd, zc, zn, *] <;> first | done | omega) rfl ?_
        simp only [List.set_cons_zero, List.set_cons_succ]
        rw [← hdl, cp3 (al.drop (64 * j)) (by omega)]
        refine vl_v (q_conv_nu64 Try.underlying3 Try.underlying62 rfl) rfl ?_
        refine vl_v (q_as (v := vU64 (UInt64.ofNat al.length)) (q_add_u64 rfl rfl) (by rw [ofNat64_add, hdl, show 64 * j + min (64 + b.length - 64 * j) 64 = al.length by omega])) rfl ?_
        refine vl_v (q_assign rfl) rfl ?_
        refine vl_nil ?_
        refine (th_n ?_)
        refine VC_seq ?_
        refine VC_region ?_
        refine vl_v (q_move rfl) rfl ?_
        refine l_callE Try.func53 rfl rfl rfl (fun w1 H1 => into_true (hs (hKey key.length) al j) (padB (al.drop (64 * j))) (UInt64.ofNat al.length) b6 b9 0 hhl (padB_length (by omega)) (by rw [List.drop_zero, List.take_of_length_le (by rw [bys_length, padB_length (by omega)]; omega)]) w1 (H1.pick (ks := [1, 0, 2, 3]) (by decide) rfl)) rfl ?_
        refine vl_nil ?_
        refine (th_n ?_)
        refine VC_seq ?_
        refine VC_region ?_
        rw [show into (hs (hKey key.length) al j) (padB (al.drop (64 * j))) (UInt64.ofNat al.length) true = hEnd (hKey key.length) al by rw [hEnd, ← hj]]
        have hel := (hEnd_length (hKey key.length) al).trans (hKey_length key.length)
        refine l_allocA zr23 rfl ?_
        intro b10
        refine vl_nil ?_
        refine (th_n ?_)
        refine VC_seq ?_
        refine VC_seq ?_
        refine VC_region ?_
        refine vl_v (q_move rfl) rfl ?_
        refine vl_nil ?_
        refine (th_n ?_)
        refine VC_block ?_
        refine VC_loop (ι := Nat) (fun z => z ≤ 32) (fun z => [(4, vP b4 0), (6, vP b6 0), (10, vP b10 0), (55, vN z)]) (fun z => [.blk b10 23 (bys (hOut (hEnd (hKey key.length) al) z)), .blk b6 85 (u32s (hEnd (hKey key.length) al)), .blk b4 23 (bys (List.replicate 32 0))]) (fun z => 32 - z) 0 (by omega) (Sub.cons (s := 4) rfl (Sub.cons (s := 6) rfl (Sub.cons (s := 10) rfl (Sub.cons (s := 55) rfl (Sub.nil _))))) (fun w H => St.pick H (ks := [0, 1, 4]) (by decide) rfl) ?_
        rintro z hp
        have hol := hOut_length (hEnd (hKey key.length) al) z
        refine VC_seq ?_
        refine VC_region ?_
        refine vl_v (q_lss_n (q := 32) Try.underlying3 rfl rfl) rfl ?_
        refine vl_nil ?_
        refine (th_n ?_)
        refine VC_seq ?_
        refine VC_cond rfl (fun ht56 => ?_) (fun ht56 => ?_)
        · skip
          have ht56 := of_decide_eq_true ht56
          refine VC_skip ?_
          refine (th_n ?_)
          refine VC_seq ?_
          refine VC_block ?_
          refine VC_seq ?_
          refine VC_region ?_
          refine vl_v (q_move rfl) rfl ?_
          refine vl_v (q_assign rfl) rfl ?_
          refine vl_nil ?_
          refine (th_n ?_)
          refine VC_region ?_
          refine vl_v (q_move rfl) rfl ?_
          refine vl_v (q_move rfl) rfl ?_
          refine vl_v (q_quo_n (q := 4) rfl rfl (by omega) (by omega)) rfl ?_
          refine vl_v (q_idxA Try.underlying85 sz73 rfl rfl (by omega) (r := _) (by rw [Nat.mul_one, Nat.zero_add])) rfl ?_
          refine vl_v (q_load 1 Try.underlying73 rfl rfl rfl (u32s_at (by omega))) rfl ?_
          refine vl_v (q_move rfl) rfl ?_
          refine vl_v (q_rem_n (q := 4) rfl rfl (by omega)) rfl ?_
          refine vl_v (q_mul_n (q := 8) rfl rfl (by omega)) rfl ?_
          refine vl_v (q_shr_u32 rfl rfl) rfl ?_
          refine vl_v (q_conv_nu8 Try.underlying73 Try.underlying5 rfl) rfl ?_
          refine vl_v (q_idxA Try.underlying23 sz5 rfl rfl (by omega) (r := _) (by rw [Nat.mul_one, Nat.zero_add])) rfl ?_
          refine l_stB 0 rfl rfl rfl sz5 (by omega) ?_
          simp only [List.set_cons_zero, List.set_cons_succ]
          refine vl_nil ?_
          refine (bl_n (th_n ?_))
          refine VC_region ?_
          refine vl_v (q_add_n (q := 1) rfl rfl (by omega)) rfl ?_
          refine vl_v (q_move rfl) rfl ?_
          refine vl_nil ?_
          refine (th_n ?_)
          refine ⟨z + 1, by omega, by omega, (Sub.cons (s := 4) rfl (Sub.cons (s := 6) rfl (Sub.cons (s := 10) rfl (Sub.cons (s := 55) rfl (Sub.nil _))))), fun w H => H⟩
        · skip
          have ht56 := of_decide_eq_false ht56
          obtain rfl : z = 32 := by omega
          rw [show hOut (hEnd (hKey key.length) al) 32 = macB key b by rw [macB, ← hal]]
          have hml := macB_length key b
          refine VC_exit ?_
          refine (th_x (th_x (bl_xs (th_n ?_))))
          refine VC_seq ?_
          refine VC_region ?_
          refine vl_v (q_loads 0 Try.underlying23 rfl rfl rfl sz23 (by simp only [zb, zu, zw, zi, za]; omega)) rfl ?_
          refine l_storeA 2 rfl rfl rfl sz23 (by simp only [zb, zu, zw, zi, za]; omega) (by with_reducible first | exact bys_one _ | exact u32s_one _ | exact u64s_one _ | exact i64s_one _ | exact n64s_one _ | assumption) (by simp only [zs, zr, zm, za, zb, zu, zw, zi, zt, zd, zc, zn, *] <;> first | done | omega) ?_
          simp only [List.set_cons_zero, List.set_cons_succ]
          refine vl_v (q_assign rfl) rfl ?_
          refine vl_nil ?_
          refine (th_n ?_)
          refine VC_ret ?_
          refine ⟨_, resC2 2 rfl Try.underlying23 rfl rfl rfl sz23 (by simp only [zb, zu, zw, zi, za]; omega) rfl, ?_⟩
          exact rfl
    · skip
      have ht28 := of_decide_eq_false ht28
      exfalso; omega
end Go.Proofs.Ytabmfndiepmcgaa
end
section
namespace Go.PBYtabmfndiepmcgaa
open Go Go.RowKit
set_option linter.unusedSimpArgs false
set_option linter.unusedVariables false
section
variable {P : Program} {n : Nat} {S : List Nat} {w0 : World} {ops : Array Oper} {Q : QE} {rest : List Oper} {d : Tmp} {ty : TypeId} {pos : String} {af : Array Edge} {env : Env} {L : List Res}
/-- an element of several cells in a slice -/
theorem q_idxRdN {t e : TypeId} {x y : Operand} {k : IntKind} {len cap m sz : Nat} {A : Option Addr} {vs : List Value} {g : Option (Nat × Bool)} (hu : P.underlying t = some (.slice e)) (hi : (P.info? e).map (·.size) = some sz) (hx : evalE env x = some (.slice A len cap)) (hy : evalE env y = some (.int k (m : Int))) (hm : m < len) (hr : Reads S w0 L A vs) (hl : m * sz < vs.length) :
    QT P n S w0 { dst := some d, op := .indexAddr t x y, type := ty, pos, after := af, guard := g } env L (.val (ptrOf A (m * sz))) :=
  ⟨fun a w hmo H => by
    obtain ⟨ad, rfl⟩ := (hr w H).some (by omega)
    exact (q_idxS hu hi hx hy hm).run a w hmo H⟩
theorem q_loadsRd {t : TypeId} {dd : TypeDesc} {x : Operand} {A : Option Addr} {o sz : Nat} {vs us : List Value} {g : Option (Nat × Bool)} (hu : P.underlying t = some dd) (hd : (match dd with | .struct _ | .array _ _ => true | _ => false) = true) (hi : (P.info? t).map (·.size) = some sz) (hx : evalE env x = some (ptrOf A o)) (hr : Reads S w0 L A vs) (hv : (vs.drop o).take sz = us) (hl : us.length = sz) (hz : 0 < sz) :
    QT P n S w0 { dst := some d, op := .load t x, type := ty, pos, after := af, guard := g } env L (.val (.agg us.toArray)) :=
  ⟨fun a w hmo H => by
    have h1 : us.length ≤ vs.length - o := by rw [← hv, List.length_take, List.length_drop]; omega
    obtain ⟨ad, rfl⟩ := (hr w H).some (by omega)
    exact (q_loadsR (ad := ad.add o) hu hd (by rw [hi, hl]) hx (fun w H => hv ▸ ((hr w H).drop o).take sz)).run a w hmo H⟩
theorem VC_pickL {c : Code} {ks : List Nat} {M : List Res} (hnd : ks.Nodup) (h : pick L ks = some M) (hc : VC P n S w0 c Q env M) : VC P n S w0 c Q env L := VC_sub hc (Sub.refl _) (fun w H => H.pick hnd h)
end
section
variable {P : Program} {n : Nat} {S : List Nat} {w0 : World} {Z : List PanicEntry → World → Prop} {ops : Array Oper} {L : List Res} {d : Tmp} {ty : TypeId} {pos : String} {af : Array Edge} {F : (Xs → Xs → Env) → AkP → Prop} {k : Nat} {C ti to xi xo : List Nat} {Ts : List T5} {E : Xs → Xs → Env} {A : AkP} {rest : List Oper}
theorem nBlk_vP (T : TypeId) (c : List Value) (b : Nat) : nBlk T c (vP b 0) = [.blk b T c] := rfl
/-- a store to what came to be in the region -/
theorem qp_storeN {t : TypeId} {x y : Operand} {sz : Nat} {T : TypeId} {u : Xs → Xs → Value} {c vs : Xs → Xs → List Value} (hx : ∀ xs gs : Xs, factsAP C xs gs A → evalE (E xs gs) x = some (u xs gs)) (hb : ∀ xs gs : Xs, factsAP C xs gs A → ∃ b, u xs gs = vP b 0) (hy : ∀ xs gs : Xs, factsAP C xs gs A → evalE (E xs gs) y = some (.agg (vs xs gs).toArray))
    (hp : ∀ xs gs : Xs, factsAP C xs gs A → ownsA (fun j => to.contains j) xs gs A = nBlk T (c xs gs) (u xs gs)) (hi : (P.info? t).map (·.size) = some sz) (hs : ∀ xs gs : Xs, factsAP C xs gs A → (vs xs gs).length = sz) (h1 : ∀ xs gs : Xs, factsAP C xs gs A → ∀ u ∈ vs xs gs, u.oneCell' = true) (hl : ∀ xs gs : Xs, factsAP C xs gs A → (c xs gs).length = sz)
    (h : quietsP P n S w0 Z ops L F (k + 1) rest Ts E (A ++ [(k, C, fun _ _ v _ => v = undef, fun xs gs _ _ => nBlk T (vs xs gs) (u xs gs))])) :
    quietsP P n S w0 Z ops L F k ({ dst := none, op := .store t x y, type := ty, pos, after := af, guard := none } :: rest) ((C, [], to, xi, xo) :: Ts) E A :=
  qp_of (s := .any (fun _ _ v _ => v = undef) (fun xs gs _ _ => nBlk T (vs xs gs) (u xs gs))) (fun xs gs hf => .inl ⟨trivial, by
    obtain ⟨b, e⟩ := hb xs gs hf
    have hx' := hx xs gs hf
    rw [hp xs gs hf, selI_none, List.nil_append]
    show QPT P n S w0 _ (E xs gs) _ _ (fun v _ => v = undef) (fun _ _ => nBlk T (vs xs gs) (u xs gs))
    rw [e] at hx' ⊢
    rw [nBlk_vP, nBlk_vP]
    exact ⟨fun a w R hm H => opw_store (k := 0) H rfl (hm.eval hx') (by rw [hm.eval (hy xs gs hf)]; rfl) (by rw [hi, hs xs gs hf]) (by rw [hs xs gs hf, hl xs gs hf]; omega) (h1 xs gs hf) fun w' H' => ⟨undef, undef, rfl, fun _ => rfl, rfl, by rw [splice_all (by rw [hs xs gs hf, hl xs gs hf])] at H'; exact H'⟩⟩⟩) h
end
end Go.PBYtabmfndiepmcgaa
end
section
namespace Go.PBYtabmfndiepmcgaa
open Go Go.RowKit
set_option linter.unusedSimpArgs false
set_option linter.unusedVariables false
theorem zeroCells1 (z : Value) (hz : z.cells = #[z]) (m : Nat) : Builtin.zeroCells z.cells m = (List.replicate m z).toArray := by
  unfold Builtin.zeroCells
  rw [hz]
  apply Array.ext'
  simp only [List.size_toArray, List.length_cons, List.length_nil, Nat.zero_add, Nat.mul_one]
  apply List.ext_getElem
  · simp
  · intro i h1 h2
    simp [Nat.mod_one]
theorem run_append_zeros {P : Program} (w : World) (t tx ty e : TypeId) (i : TypeInfo) (z : Value) (bytes : Nat) (kd : IntKind) (ht : P.underlying t = some (.slice e)) (htx : P.underlying tx = some (.int kd))
    (hi : P.info? e = some i) (hz : i.zero = some z) (hsize : i.size = 1) (hby : i.bytes = bytes) (hzc : z.cells = #[z]) (hz1 : z.oneCell' = true)
    (v : Value) (n : Nat) (xs : List Value) (hrow : Row w e 1 v n xs) (m : Nat)
    (hbytes : (n + m) * bytes ≤ 70368744177664) (hmax : n + m ≤ 70368744177664) (hb1 : bytes ≤ 16) :
    ∃ v' w', (Builtin.append_ #[t, tx] ty #[v, .int .i64 (m : Int)]).run P w = .ok v' w' ∧ Row w' e 1 v' (n + m) (xs ++ List.replicate m z) ∧ w.grownBy w' v.ownBlock ∧ (v'.ownBlock = v.ownBlock ∨ v'.ownBlock = some w.heap.size) := by
  subst hby
  have hml : n + m ≤ maxLen := by simp only [maxLen]; omega
  have hlen' : (xs ++ List.replicate m z).length = (n + m) * 1 := by rw [List.length_append, hrow.1, List.length_replicate, Nat.add_mul]; omega
  have hwr : IntKind.i64.wrap (m : Int) = (m : Int) := wi (by omega) (by omega)
  have hzc' := zeroCells1 z hzc
  have hnn : ¬ ((m : Int) < 0) := by omega
  have hmb : m * i.bytes ≤ 70368744177664 := Nat.le_trans (Nat.mul_le_mul_right _ (by omega)) hbytes
  have hbig : ¬ ((m : Int) * (i.bytes : Int) > 281474976710656) := by
    have h1 : ((m * i.bytes : Nat) : Int) ≤ ((70368744177664 : Nat) : Int) := Int.ofNat_le.2 hmb
    rw [Int.natCast_mul] at h1
    omega
  have hnotint : ¬ ((n : Int) + (m : Int) > 9223372036854775807) := by omega
  have hnext : ∀ c, c < n + m → ¬ (281474976710656 < Builtin.nextslicecap (n + m) c * i.bytes) := by
    intro c hc h
    have h2 := nextcap_le (n + m) c hc
    have h3 : Builtin.nextslicecap (n + m) c * i.bytes ≤ (2 * (n + m) + 1024) * i.bytes := Nat.mul_le_mul_right _ h2
    have h4 : (2 * (n + m) + 1024) * i.bytes = 2 * ((n + m) * i.bytes) + 1024 * i.bytes := by rw [Nat.add_mul, Nat.mul_assoc]
    omega
  have hz0 : m = 0 → (List.replicate m z).toArray = #[] := by rintro rfl; rfl
  have happ : ∀ w' : World, ((if m * i.size = 0 then pure #[] else do pure (Builtin.zeroCells (← zeroValue e).cells m) : Sem (Array Value))).run P w' = .ok (List.replicate m z).toArray w' := by
    intro w'
    by_cases hm : m = 0
    · subst hm; simp [hsize]
    · simp [hsize, hm, zeroValue, typeInfo, hi, hz, hzc']
  have grown : ∀ (old : Nat), old < n + m → ∀ (row : Option Nat), Row (w.drew.alloc (.cells (xs.toArray ++ (List.replicate m z).toArray ++ Builtin.zeroCells z.cells (grownCap w (n + m) old e - (n + m))) e)) e 1
        (.slice (some ⟨w.heap.size, 0, none⟩) (n + m) (grownCap w (n + m) old e)) (n + m) (xs ++ List.replicate m z) ∧
      w.grownBy (w.drew.alloc (.cells (xs.toArray ++ (List.replicate m z).toArray ++ Builtin.zeroCells z.cells (grownCap w (n + m) old e - (n + m))) e)) row := by
    intro old ho row
    have hge := grownCap_ge w (n + m) old e
    have hcm : grownCap w (n + m) old e ≤ maxLen := grownCap_le_maxLen w (n + m) old e hml
    refine ⟨⟨hlen', .inr ⟨w.heap.size, _, (Builtin.zeroCells z.cells (grownCap w (n + m) old e - (n + m))).toList, rfl, hge, hcm, ?_, ⟨(0, 0), ?_, ?_⟩⟩⟩, ⟨rfl, rfl, rfl, by simp, fun k hk _ => Below.heap_alloc w.drew _ k hk⟩⟩
    · rw [hzc', List.length_append, hlen', List.toList_toArray, List.length_replicate]
      omega
    · have := heap_alloc_new w.drew (.cells (xs.toArray ++ (List.replicate m z).toArray ++ Builtin.zeroCells z.cells (grownCap w (n + m) old e - (n + m))) e)
      rw [show w.drew.heap.size = w.heap.size from rfl] at this
      rw [this]
      congr 2
      apply Array.ext'
      simp
    · exact .inl rfl
  rcases hrow.2 with ⟨rfl, rfl⟩ | ⟨g, cap, more, rfl, hnc, hcm, hcs, hblk⟩
  · have hx : xs = [] := List.eq_nil_of_length_eq_zero (by simpa using hrow.1)
    subst hx
    by_cases hm : m = 0
    · subst hm
      refine ⟨.slice none 0 0, w, ?_, ⟨by simp, .inl ⟨rfl, rfl⟩⟩, ⟨rfl, rfl, rfl, Nat.le_refl _, fun _ _ _ => rfl⟩, .inl rfl⟩
      simp [Builtin.append_, run_underlying ht, run_underlying htx, sizeOf, typeInfo, hi, hsize, asInt, asIntOf, wi]
    · have hgr := grown 0 (by omega) (Value.ownBlock (.slice none 0 0))
      simp only [Nat.zero_add, List.nil_append, Array.empty_append] at hgr ⊢
      refine ⟨_, _, ?_, hgr.1, hgr.2, .inr rfl⟩
      have hn0 := hnext 0 (by omega)
      simp only [Nat.zero_add] at hn0
      have h63' : ¬ (9223372036854775807 < (m : Int)) := by omega
      have hold : (Builtin.firstCells 1 0 (.slice none 0 0)).run P w.drew = .ok #[] w.drew := rfl
      simp [Builtin.append_, run_underlying ht, run_underlying htx, sizeOf, typeInfo, zeroValue, hi, hz, hsize, asInt, asIntOf, hwr, hnn, hbig, hm, h63', hn0, Question.forced, hold, happ, hzc', newRow, grownCap]
  · by_cases hroom : n + m ≤ cap
    · have hfit : n * 1 + (List.replicate m z).length ≤ (xs ++ more).length := by rw [hcs, List.length_replicate]; omega
      have hst := run_storeCells_blk P hblk (n * 1) (List.replicate m z) hfit (fun u hu => by rw [List.eq_of_mem_replicate hu]; exact hz1)
      have hsp : splice (xs ++ more) (n * 1) (List.replicate m z) = (xs ++ List.replicate m z) ++ (more.drop m) := by
        unfold splice
        rw [← hrow.1]
        simp [List.drop_append]
      refine ⟨.slice (some ⟨g, 0, none⟩) (n + m) cap, _, ?_, ⟨hlen', .inr ⟨g, cap, more.drop m, rfl, hroom, hcm, ?_, ?_⟩⟩, grownBy_setRow w g (splice (xs ++ more) (n * 1) (List.replicate m z)).toArray, .inl rfl⟩
      · rw [Nat.mul_one] at hst
        by_cases hm : m = 0
        · subst hm
          have hw0 : IntKind.i64.wrap 0 = 0 := wi (by decide) (by decide)
          have hr0 : n ≤ cap := hnc
          have hst' : (storeCells ⟨g, n, none⟩ []).run P w = .ok () (w.setRow g (splice (xs ++ more) (n * 1) (List.replicate 0 z)).toArray) := by
            rw [Nat.mul_one] at *
            exact hst
          simp [Builtin.append_, run_underlying ht, run_underlying htx, sizeOf, typeInfo, zeroValue, hi, hz, hsize, asInt, asIntOf, hw0, hr0, Addr.add_lit, hst']
        · simp [Builtin.append_, run_underlying ht, run_underlying htx, sizeOf, typeInfo, zeroValue, hi, hz, hsize, asInt, asIntOf, hwr, hnn, hbig, hroom, hm, hzc', Addr.add_lit, hst]
      · have e1 := hrow.1
        rw [List.length_append] at hcs ⊢
        rw [List.length_append, List.length_drop, List.length_replicate]
        omega
      · rw [hsp]
        refine setRow_blk hblk ?_
        rw [List.length_replicate] at hfit
        rw [List.length_append] at hfit ⊢
        rw [List.length_append, List.length_append, List.length_drop, List.length_replicate]
        have e1 := hrow.1
        omega
    · have hgr := grown cap (by omega) (some g)
      refine ⟨_, _, ?_, hgr.1, hgr.2, .inr rfl⟩
      have hm : ¬ m = 0 := by omega
      have h63' : ¬ (9223372036854775807 < ((n : Int) + (m : Int))) := by omega
      have hn0 := hnext cap (by omega)
      have hold : (Builtin.firstCells 1 n (.slice (some ⟨g, 0, none⟩) n cap)).run P w.drew = .ok xs.toArray w.drew := by
        have hs : SlAt w.drew (some ⟨g, 0, none⟩) xs := (Blk.of_eq hblk rfl).sl0.left
        have := run_loadCells_list (P := P) w.drew ⟨g, 0, none⟩ xs (fun j v hv => hs.get hv)
        rw [hrow.1] at this
        exact this
      simp [Builtin.append_, run_underlying ht, run_underlying htx, sizeOf, typeInfo, zeroValue, hi, hz, hsize, asInt, asIntOf, hwr, hnn, hbig, hroom, hm, h63', hn0, Question.forced, hold, happ, hzc', newRow, grownCap]
section
variable {P : Program} {n : Nat} {S : List Nat} {w0 : World} {ops : Array Oper} {Q : QE} {rest : List Oper} {d : Tmp} {ty : TypeId} {pos : String} {af : Array Edge} {env : Env} {L : List Res}
theorem l_appendZ {t tx e : TypeId} {s x : Operand} {z : Value} {bytes p m : Nat} {kd : IntKind} {v : Value} {xs : List Value} (k : Nat) (hs : evalE env s = some v) (hx : evalE env x = some (.int .i64 (m : Int))) (hk : L[k]? = some (.row e 1 v p xs)) (hu : P.underlying t = some (.slice e)) (htx : P.underlying tx = some (.int kd))
    (hi : (P.info? e).map (fun i => (i.zero, i.size, i.bytes)) = some (some z, 1, bytes)) (hzc : z.cells = #[z]) (hz1 : z.oneCell' = true) (hb1 : bytes ≤ 16)
    (hbytes : (p + m) * bytes ≤ 70368744177664) (hmax : p + m ≤ 70368744177664) (hd : dstOk n (some d) = true) (h : ∀ B c, p + m ≤ c → VL P n S w0 ops Q rest ((d, .slice B (p + m) c) :: env) (L.set k (.row e 1 (.slice B (p + m) c) (p + m) (xs ++ List.replicate m z)))) :
    VL P n S w0 ops Q ({ dst := some d, op := .call { callee := .builtin .append, args := #[s, x], argTypes := #[t, tx] }, type := ty, pos, after := af, guard := none } :: rest) env L :=
  vl_run trivial fun a w hm H => by
    obtain ⟨i, hi, hz', h1', h2'⟩ := info_parts hi
    obtain ⟨v', w', hr, hrow, hg, hat⟩ := run_append_zeros (P := P) w t tx ty e i z bytes kd hu htx hi hz' h1' h2' hzc hz1 v p xs (H.get hk) m hbytes hmax hb1
    refine opw_val (v := v') (w' := w') (by simp only [BigFrame.execOp_builtin, BigFrame.builtin_append, List.map_toArray, List.map_cons, List.map_nil, hm.eval hs, hm.eval hx, Sem.run_bind, hr, Result.andThen_ok, Sem.run_pure]) ?_
    obtain ⟨B, c, rfl, hc, hcm, _⟩ := Row.slice hrow
    refine (h B c hc).run _ w' (hm.put hd _) (H.change hk hg hrow ?_)
    intro b hb
    simp only [Res.at] at hb ⊢
    rcases hat with e | e
    · exact .inl (e ▸ hb)
    · rw [hb] at e; simp only [Option.some.injEq] at e; exact .inr (by omega)
end
end Go.PBYtabmfndiepmcgaa
end
section
namespace Go.Proofs.Ytabmfndiepmcgaa
open Go.RowKit Go.PBYtabmfndiepmcgaa
set_option linter.unusedVariables false
set_option linter.unusedSimpArgs false
set_option maxRecDepth 10000
theorem rot_eq (x : UInt32) (n : Nat) (h : n ≤ 32) : UInt32.ofNat (x.toNat / 2 ^ (min n 32)) ||| UInt32.ofNat (x.toNat * 2 ^ (min (32 - n) 32)) = rotl x (32 - n) := by
  rw [UInt32.or_comm, rotl, show 32 - (32 - n) = n by omega]
theorem rturned_calls (x : UInt32) (n : Nat) (h : n ≤ 32) (w : World) :
    Calls Try.prog 67 #[vU32 x, vN n] w fun e w' => e = .returned (vU32 (rotl x (32 - n))) ∧ Kept [] w w' := by
  refine enter (n := 13) (R := fun e L => e = .returned (vU32 (rotl x (32 - n)))) [vU32 x, vN n] Try.func67 rfl rfl rfl (St.refl w) ?_ (fun e w' L' h H => ⟨h, H.kept⟩)
  refine VC_seq ?_
  refine VC_region ?_
  refine vl_v (q_assign rfl) rfl ?_
  refine vl_nil ?_
  refine (th_n ?_)
  refine VC_seq ?_
  refine VC_drawV 7 [[], [], [0, 1], [], [], [4], [3, 5], [2, 6], [7, 0, 1, 2, 3, 4, 5, 6]] [[], [], [0, 1], [], [], [4], [3, 4, 5], [0, 1, 2, 3, 4, 5, 6], [0, 1, 2, 3, 4, 5, 6, 7]] rfl (by kernel_rfl) ?_
  refine qv_v (q_move rfl) ?_
  refine qv_v (q_move rfl) ?_
  refine qv_v (q_shr_u32 rfl rfl) ?_
  refine qv_v (q_move rfl) ?_
  refine qv_v (q_move rfl) ?_
  refine qv_v (q_sub_n (p := 32) rfl rfl (by omega) (by omega)) ?_
  refine qv_v (q_shl_u32 rfl rfl) ?_
  refine qv_end ?_
  refine VL.keep (Sub.cons (s := 0) rfl (Sub.cons (s := 1) rfl (Sub.cons (s := 4) rfl (Sub.cons (s := 7) rfl (Sub.cons (s := 11) rfl (Sub.nil _)))))) ?_
  refine vl_v (q_as (v := vU32 (rotl x (32 - n))) (q_or_u32 rfl rfl) (by rw [rot_eq x n h])) rfl ?_
  refine vl_v (q_assign rfl) rfl ?_
  refine vl_nil ?_
  refine (qn_n (th_n ?_))
  refine VC_ret ?_
  refine ⟨_, res1 rfl rfl, ?_⟩
  exact rfl
set_option maxHeartbeats 2000000 in
theorem rmix_calls {S : List Nat} {w0 : World} {R : List Res} {T : TypeId} {more : List Value} (l : List UInt32) (ia ib ic id cap : Nat) (x y : UInt32) (bl : Nat) (hl : l.length = 16) (h1 : ia < 16) (h2 : ib < 16) (h3 : ic < 16) (h4 : id < 16) (w : World) (H : St S w0 (.blk bl T (u32s l ++ more) :: R) w) :
    Calls Try.prog 61 #[.slice (some ⟨bl, 0, none⟩) 16 cap, vN ia, vN ib, vN ic, vN id, vU32 x, vU32 y] w fun e w' => e = .returned (.tuple #[]) ∧ St S w0 (.blk bl T (u32s (mixL l ia ib ic id x y) ++ more) :: R) w' := by
  refine enter (n := 118) (R := fun e L => e = .returned (.tuple #[]) ∧ L = .blk bl T (u32s (mixL l ia ib ic id x y) ++ more) :: R) [.slice (some ⟨bl, 0, none⟩) 16 cap, vN ia, vN ib, vN ic, vN id, vU32 x, vU32 y] Try.func61 rfl rfl rfl H ?_ (fun e w' L' h H => ⟨h.1, h.2 ▸ H⟩)
  refine VC_seq ?_
  refine VC_drawV 13 [[], [], [], [], [2, 3], [4], [], [], [6, 7], [8], [5, 9], [], [10, 11], [0, 1, 2, 3, 4, 5, 6, 7, 8, 9, 10, 11, 12], [13, 12, 0, 1, 2, 3, 4, 5, 6, 7, 8, 9, 10, 11]] [[], [], [], [], [2, 3], [2, 3, 4], [], [], [6, 7], [6, 7, 8], [2, 3, 4, 5, 6, 7, 8, 9], [], [2, 3, 4, 5, 6, 7, 8, 9, 10, 11], [0, 1, 2, 3, 4, 5, 6, 7, 8, 9, 10, 11, 12], [0, 1, 2, 3, 4, 5, 6, 7, 8, 9, 10, 11, 12, 13]] rfl (by kernel_rfl) ?_
  refine qv_v (q_move rfl) ?_
  refine qv_v (q_move rfl) ?_
  refine qv_v (q_move rfl) ?_
  refine qv_v (q_move rfl) ?_
  refine qv_v (q_idxS0 Try.underlying71 sz73 rfl rfl (by omega) (by rw [Nat.mul_one, Nat.zero_add])) ?_
  refine qv_v (q_load 0 Try.underlying73 rfl rfl rfl (u32s_atA (by omega))) ?_
  refine qv_v (q_move rfl) ?_
  refine qv_v (q_move rfl) ?_
  refine qv_v (q_idxS0 Try.underlying71 sz73 rfl rfl (by omega) (by rw [Nat.mul_one, Nat.zero_add])) ?_
  refine qv_v (q_load 0 Try.underlying73 rfl rfl rfl (u32s_atA (by omega))) ?_
  refine qv_v (q_add_u32 rfl rfl) ?_
  refine qv_v (q_move rfl) ?_
  refine qv_v (q_add_u32 rfl rfl) ?_
  refine qv_end ?_
  refine VL.keep (Sub.cons (s := 0) rfl (Sub.cons (s := 1) rfl (Sub.cons (s := 2) rfl (Sub.cons (s := 3) rfl (Sub.cons (s := 4) rfl (Sub.cons (s := 5) rfl (Sub.cons (s := 6) rfl (Sub.cons (s := 14) rfl (Sub.cons (s := 15) rfl (Sub.cons (s := 26) rfl (Sub.nil _))))))))))) ?_
  refine vl_v (q_idxS0 Try.underlying71 sz73 rfl rfl (by omega) (by rw [Nat.mul_one, Nat.zero_add])) rfl ?_
  refine l_stU32A 0 rfl rfl rfl sz73 (by omega) ?_
  simp only [List.set_cons_zero, List.set_cons_succ]
  refine vl_nil ?_
  refine (qn_n (th_n ?_))
  refine VC_seq ?_
  refine VC_drawV 12 [[], [], [], [], [2, 3], [4], [], [], [6, 7], [8], [5, 9], [10], [0, 1, 2, 3, 4, 5, 6, 7, 8, 9, 10, 11], [12, 11, 0, 1, 2, 3, 4, 5, 6, 7, 8, 9, 10]] [[], [], [], [], [2, 3], [2, 3, 4], [], [], [6, 7], [6, 7, 8], [2, 3, 4, 5, 6, 7, 8, 9], [2, 3, 4, 5, 6, 7, 8, 9, 10], [0, 1, 2, 3, 4, 5, 6, 7, 8, 9, 10, 11], [0, 1, 2, 3, 4, 5, 6, 7, 8, 9, 10, 11, 12]] rfl (by kernel_rfl) ?_
  refine qv_v (q_move rfl) ?_
  refine qv_v (q_move rfl) ?_
  refine qv_v (q_move rfl) ?_
  refine qv_v (q_move rfl) ?_
  refine qv_v (q_idxS0 Try.underlying71 sz73 rfl rfl (by omega) (by rw [Nat.mul_one, Nat.zero_add])) ?_
  refine qv_v (q_load 0 Try.underlying73 rfl rfl rfl (u32s_atA (by simp only [zs, zr, zm, za, zb, zu, zw, zi, zt, zd, zc, zn, *] <;> first | done | omega))) ?_
  refine qv_v (q_move rfl) ?_
  refine qv_v (q_move rfl) ?_
  refine qv_v (q_idxS0 Try.underlying71 sz73 rfl rfl (by omega) (by rw [Nat.mul_one, Nat.zero_add])) ?_
  refine qv_v (q_load 0 Try.underlying73 rfl rfl rfl (u32s_atA (by simp only [zs, zr, zm, za, zb, zu, zw, zi, zt, zd, zc, zn, *] <;> first | done | omega))) ?_
  refine qv_v (q_xor_u32 rfl rfl) ?_
  refine qv_v (q_callV Try.func67 rfl rfl rfl (fun w1 H1 => rturned_calls _ 16 (by decide) w1)) ?_
  refine qv_end ?_
  refine VL.keep (Sub.cons (s := 0) rfl (Sub.cons (s := 1) rfl (Sub.cons (s := 2) rfl (Sub.cons (s := 3) rfl (Sub.cons (s := 4) rfl (Sub.cons (s := 5) rfl (Sub.cons (s := 6) rfl (Sub.cons (s := 28) rfl (Sub.cons (s := 29) rfl (Sub.cons (s := 39) rfl (Sub.nil _))))))))))) ?_
  refine vl_v (q_idxS0 Try.underlying71 sz73 rfl rfl (by omega) (by rw [Nat.mul_one, Nat.zero_add])) rfl ?_
  refine l_stU32A 0 rfl rfl rfl sz73 (by simp only [zs, zr, zm, za, zb, zu, zw, zi, zt, zd, zc, zn, *] <;> first | done | omega) ?_
  simp only [List.set_cons_zero, List.set_cons_succ]
  refine vl_nil ?_
  refine (qn_n (th_n ?_))
  refine VC_seq ?_
  refine VC_drawV 11 [[], [], [], [], [2, 3], [4], [], [], [6, 7], [8], [5, 9], [0, 1, 2, 3, 4, 5, 6, 7, 8, 9, 10], [11, 10, 0, 1, 2, 3, 4, 5, 6, 7, 8, 9]] [[], [], [], [], [2, 3], [2, 3, 4], [], [], [6, 7], [6, 7, 8], [2, 3, 4, 5, 6, 7, 8, 9], [0, 1, 2, 3, 4, 5, 6, 7, 8, 9, 10], [0, 1, 2, 3, 4, 5, 6, 7, 8, 9, 10, 11]] rfl (by kernel_rfl) ?_
  refine qv_v (q_move rfl) ?_
  refine qv_v (q_move rfl) ?_
  refine qv_v (q_move rfl) ?_
  refine qv_v (q_move rfl) ?_
  refine qv_v (q_idxS0 Try.underlying71 sz73 rfl rfl (by omega) (by rw [Nat.mul_one, Nat.zero_add])) ?_
  refine qv_v (q_load 0 Try.underlying73 rfl rfl rfl (u32s_atA (by simp only [zs, zr, zm, za, zb, zu, zw, zi, zt, zd, zc, zn, *] <;> first | done | omega))) ?_
  refine qv_v (q_move rfl) ?_
  refine qv_v (q_move rfl) ?_
  refine qv_v (q_idxS0 Try.underlying71 sz73 rfl rfl (by omega) (by rw [Nat.mul_one, Nat.zero_add])) ?_
  refine qv_v (q_load 0 Try.underlying73 rfl rfl rfl (u32s_atA (by simp only [zs, zr, zm, za, zb, zu, zw, zi, zt, zd, zc, zn, *] <;> first | done | omega))) ?_
  refine qv_v (q_add_u32 rfl rfl) ?_
  refine qv_end ?_
  refine VL.keep (Sub.cons (s := 0) rfl (Sub.cons (s := 1) rfl (Sub.cons (s := 2) rfl (Sub.cons (s := 3) rfl (Sub.cons (s := 4) rfl (Sub.cons (s := 5) rfl (Sub.cons (s := 6) rfl (Sub.cons (s := 41) rfl (Sub.cons (s := 42) rfl (Sub.cons (s := 51) rfl (Sub.nil _))))))))))) ?_
  refine vl_v (q_idxS0 Try.underlying71 sz73 rfl rfl (by omega) (by rw [Nat.mul_one, Nat.zero_add])) rfl ?_
  refine l_stU32A 0 rfl rfl rfl sz73 (by simp only [zs, zr, zm, za, zb, zu, zw, zi, zt, zd, zc, zn, *] <;> first | done | omega) ?_
  simp only [List.set_cons_zero, List.set_cons_succ]
  refine vl_nil ?_
  refine (qn_n (th_n ?_))
  refine VC_seq ?_
  refine VC_drawV 12 [[], [], [], [], [2, 3], [4], [], [], [6, 7], [8], [5, 9], [10], [0, 1, 2, 3, 4, 5, 6, 7, 8, 9, 10, 11], [12, 11, 0, 1, 2, 3, 4, 5, 6, 7, 8, 9, 10]] [[], [], [], [], [2, 3], [2, 3, 4], [], [], [6, 7], [6, 7, 8], [2, 3, 4, 5, 6, 7, 8, 9], [2, 3, 4, 5, 6, 7, 8, 9, 10], [0, 1, 2, 3, 4, 5, 6, 7, 8, 9, 10, 11], [0, 1, 2, 3, 4, 5, 6, 7, 8, 9, 10, 11, 12]] rfl (by kernel_rfl) ?_
  refine qv_v (q_move rfl) ?_
  refine qv_v (q_move rfl) ?_
  refine qv_v (q_move rfl) ?_
  refine qv_v (q_move rfl) ?_
  refine qv_v (q_idxS0 Try.underlying71 sz73 rfl rfl (by omega) (by rw [Nat.mul_one, Nat.zero_add])) ?_
  refine qv_v (q_load 0 Try.underlying73 rfl rfl rfl (u32s_atA (by simp only [zs, zr, zm, za, zb, zu, zw, zi, zt, zd, zc, zn, *] <;> first | done | omega))) ?_
  refine qv_v (q_move rfl) ?_
  refine qv_v (q_move rfl) ?_
  refine qv_v (q_idxS0 Try.underlying71 sz73 rfl rfl (by omega) (by rw [Nat.mul_one, Nat.zero_add])) ?_
  refine qv_v (q_load 0 Try.underlying73 rfl rfl rfl (u32s_atA (by simp only [zs, zr, zm, za, zb, zu, zw, zi, zt, zd, zc, zn, *] <;> first | done | omega))) ?_
  refine qv_v (q_xor_u32 rfl rfl) ?_
  refine qv_v (q_callV Try.func67 rfl rfl rfl (fun w1 H1 => rturned_calls _ 12 (by decide) w1)) ?_
  refine qv_end ?_
  refine VL.keep (Sub.cons (s := 0) rfl (Sub.cons (s := 1) rfl (Sub.cons (s := 2) rfl (Sub.cons (s := 3) rfl (Sub.cons (s := 4) rfl (Sub.cons (s := 5) rfl (Sub.cons (s := 6) rfl (Sub.cons (s := 53) rfl (Sub.cons (s := 54) rfl (Sub.cons (s := 64) rfl (Sub.nil _))))))))))) ?_
  refine vl_v (q_idxS0 Try.underlying71 sz73 rfl rfl (by omega) (by rw [Nat.mul_one, Nat.zero_add])) rfl ?_
  refine l_stU32A 0 rfl rfl rfl sz73 (by simp only [zs, zr, zm, za, zb, zu, zw, zi, zt, zd, zc, zn, *] <;> first | done | omega) ?_
  simp only [List.set_cons_zero, List.set_cons_succ]
  refine vl_nil ?_
  refine (qn_n (th_n ?_))
  refine VC_seq ?_
  refine VC_drawV 13 [[], [], [], [], [2, 3], [4], [], [], [6, 7], [8], [5, 9], [], [10, 11], [0, 1, 2, 3, 4, 5, 6, 7, 8, 9, 10, 11, 12], [13, 12, 0, 1, 2, 3, 4, 5, 6, 7, 8, 9, 10, 11]] [[], [], [], [], [2, 3], [2, 3, 4], [], [], [6, 7], [6, 7, 8], [2, 3, 4, 5, 6, 7, 8, 9], [], [2, 3, 4, 5, 6, 7, 8, 9, 10, 11], [0, 1, 2, 3, 4, 5, 6, 7, 8, 9, 10, 11, 12], [0, 1, 2, 3, 4, 5, 6, 7, 8, 9, 10, 11, 12, 13]] rfl (by kernel_rfl) ?_
  refine qv_v (q_move rfl) ?_
  refine qv_v (q_move rfl) ?_
  refine qv_v (q_move rfl) ?_
  refine qv_v (q_move rfl) ?_
  refine qv_v (q_idxS0 Try.underlying71 sz73 rfl rfl (by omega) (by rw [Nat.mul_one, Nat.zero_add])) ?_
  refine qv_v (q_load 0 Try.underlying73 rfl rfl rfl (u32s_atA (by simp only [zs, zr, zm, za, zb, zu, zw, zi, zt, zd, zc, zn, *] <;> first | done | omega))) ?_
  refine qv_v (q_move rfl) ?_
  refine qv_v (q_move rfl) ?_
  refine qv_v (q_idxS0 Try.underlying71 sz73 rfl rfl (by omega) (by rw [Nat.mul_one, Nat.zero_add])) ?_
  refine qv_v (q_load 0 Try.underlying73 rfl rfl rfl (u32s_atA (by simp only [zs, zr, zm, za, zb, zu, zw, zi, zt, zd, zc, zn, *] <;> first | done | omega))) ?_
  refine qv_v (q_add_u32 rfl rfl) ?_
  refine qv_v (q_move rfl) ?_
  refine qv_v (q_add_u32 rfl rfl) ?_
  refine qv_end ?_
  refine VL.keep (Sub.cons (s := 0) rfl (Sub.cons (s := 1) rfl (Sub.cons (s := 2) rfl (Sub.cons (s := 3) rfl (Sub.cons (s := 4) rfl (Sub.cons (s := 5) rfl (Sub.cons (s := 6) rfl (Sub.cons (s := 66) rfl (Sub.cons (s := 67) rfl (Sub.cons (s := 78) rfl (Sub.nil _))))))))))) ?_
  refine vl_v (q_idxS0 Try.underlying71 sz73 rfl rfl (by omega) (by rw [Nat.mul_one, Nat.zero_add])) rfl ?_
  refine l_stU32A 0 rfl rfl rfl sz73 (by simp only [zs, zr, zm, za, zb, zu, zw, zi, zt, zd, zc, zn, *] <;> first | done | omega) ?_
  simp only [List.set_cons_zero, List.set_cons_succ]
  refine vl_nil ?_
  refine (qn_n (th_n ?_))
  refine VC_seq ?_
  refine VC_drawV 12 [[], [], [], [], [2, 3], [4], [], [], [6, 7], [8], [5, 9], [10], [0, 1, 2, 3, 4, 5, 6, 7, 8, 9, 10, 11], [12, 11, 0, 1, 2, 3, 4, 5, 6, 7, 8, 9, 10]] [[], [], [], [], [2, 3], [2, 3, 4], [], [], [6, 7], [6, 7, 8], [2, 3, 4, 5, 6, 7, 8, 9], [2, 3, 4, 5, 6, 7, 8, 9, 10], [0, 1, 2, 3, 4, 5, 6, 7, 8, 9, 10, 11], [0, 1, 2, 3, 4, 5, 6, 7, 8, 9, 10, 11, 12]] rfl (by kernel_rfl) ?_
  refine qv_v (q_move rfl) ?_
  refine qv_v (q_move rfl) ?_
  refine qv_v (q_move rfl) ?_
  refine qv_v (q_move rfl) ?_
  refine qv_v (q_idxS0 Try.underlying71 sz73 rfl rfl (by omega) (by rw [Nat.mul_one, Nat.zero_add])) ?_
  refine qv_v (q_load 0 Try.underlying73 rfl rfl rfl (u32s_atA (by simp only [zs, zr, zm, za, zb, zu, zw, zi, zt, zd, zc, zn, *] <;> first | done | omega))) ?_
  refine qv_v (q_move rfl) ?_
  refine qv_v (q_move rfl) ?_
  refine qv_v (q_idxS0 Try.underlying71 sz73 rfl rfl (by omega) (by rw [Nat.mul_one, Nat.zero_add])) ?_
  refine qv_v (q_load 0 Try.underlying73 rfl rfl rfl (u32s_atA (by simp only [zs, zr, zm, za, zb, zu, zw, zi, zt, zd, zc, zn, *] <;> first | done | omega))) ?_
  refine qv_v (q_xor_u32 rfl rfl) ?_
  refine qv_v (q_callV Try.func67 rfl rfl rfl (fun w1 H1 => rturned_calls _ 8 (by decide) w1)) ?_
  refine qv_end ?_
  refine VL.keep (Sub.cons (s := 0) rfl (Sub.cons (s := 1) rfl (Sub.cons (s := 2) rfl (Sub.cons (s := 3) rfl (Sub.cons (s := 4) rfl (Sub.cons (s := 5) rfl (Sub.cons (s := 6) rfl (Sub.cons (s := 80) rfl (Sub.cons (s := 81) rfl (Sub.cons (s := 91) rfl (Sub.nil _))))))))))) ?_
  refine vl_v (q_idxS0 Try.underlying71 sz73 rfl rfl (by omega) (by rw [Nat.mul_one, Nat.zero_add])) rfl ?_
  refine l_stU32A 0 rfl rfl rfl sz73 (by simp only [zs, zr, zm, za, zb, zu, zw, zi, zt, zd, zc, zn, *] <;> first | done | omega) ?_
  simp only [List.set_cons_zero, List.set_cons_succ]
  refine vl_nil ?_
  refine (qn_n (th_n ?_))
  refine VC_seq ?_
  refine VC_drawV 11 [[], [], [], [], [2, 3], [4], [], [], [6, 7], [8], [5, 9], [0, 1, 2, 3, 4, 5, 6, 7, 8, 9, 10], [11, 10, 0, 1, 2, 3, 4, 5, 6, 7, 8, 9]] [[], [], [], [], [2, 3], [2, 3, 4], [], [], [6, 7], [6, 7, 8], [2, 3, 4, 5, 6, 7, 8, 9], [0, 1, 2, 3, 4, 5, 6, 7, 8, 9, 10], [0, 1, 2, 3, 4, 5, 6, 7, 8, 9, 10, 11]] rfl (by kernel_rfl) ?_
  refine qv_v (q_move rfl) ?_
  refine qv_v (q_move rfl) ?_
  refine qv_v (q_move rfl) ?_
  refine qv_v (q_move rfl) ?_
  refine qv_v (q_idxS0 Try.underlying71 sz73 rfl rfl (by omega) (by rw [Nat.mul_one, Nat.zero_add])) ?_
  refine qv_v (q_load 0 Try.underlying73 rfl rfl rfl (u32s_atA (by simp only [zs, zr, zm, za, zb, zu, zw, zi, zt, zd, zc, zn, *] <;> first | done | omega))) ?_
  refine qv_v (q_move rfl) ?_
  refine qv_v (q_move rfl) ?_
  refine qv_v (q_idxS0 Try.underlying71 sz73 rfl rfl (by omega) (by rw [Nat.mul_one, Nat.zero_add])) ?_
  refine qv_v (q_load 0 Try.underlying73 rfl rfl rfl (u32s_atA (by simp only [zs, zr, zm, za, zb, zu, zw, zi, zt, zd, zc, zn, *] <;> first | done | omega))) ?_
  refine qv_v (q_add_u32 rfl rfl) ?_
  refine qv_end ?_
  refine VL.keep (Sub.cons (s := 0) rfl (Sub.cons (s := 1) rfl (Sub.cons (s := 2) rfl (Sub.cons (s := 3) rfl (Sub.cons (s := 4) rfl (Sub.cons (s := 5) rfl (Sub.cons (s := 6) rfl (Sub.cons (s := 93) rfl (Sub.cons (s := 94) rfl (Sub.cons (s := 103) rfl (Sub.nil _))))))))))) ?_
  refine vl_v (q_idxS0 Try.underlying71 sz73 rfl rfl (by omega) (by rw [Nat.mul_one, Nat.zero_add])) rfl ?_
  refine l_stU32A 0 rfl rfl rfl sz73 (by simp only [zs, zr, zm, za, zb, zu, zw, zi, zt, zd, zc, zn, *] <;> first | done | omega) ?_
  simp only [List.set_cons_zero, List.set_cons_succ]
  refine vl_nil ?_
  refine (qn_n (th_n ?_))
  refine VC_drawV 12 [[], [], [], [], [2, 3], [4], [], [], [6, 7], [8], [5, 9], [10], [0, 1, 2, 3, 4, 5, 6, 7, 8, 9, 10, 11], [12, 11, 0, 1, 2, 3, 4, 5, 6, 7, 8, 9, 10]] [[], [], [], [], [2, 3], [2, 3, 4], [], [], [6, 7], [6, 7, 8], [2, 3, 4, 5, 6, 7, 8, 9], [2, 3, 4, 5, 6, 7, 8, 9, 10], [0, 1, 2, 3, 4, 5, 6, 7, 8, 9, 10, 11], [0, 1, 2, 3, 4, 5, 6, 7, 8, 9, 10, 11, 12]] rfl (by kernel_rfl) ?_
  refine qv_v (q_move rfl) ?_
  refine qv_v (q_move rfl) ?_
  refine qv_v (q_move rfl) ?_
  refine qv_v (q_move rfl) ?_
  refine qv_v (q_idxS0 Try.underlying71 sz73 rfl rfl (by omega) (by rw [Nat.mul_one, Nat.zero_add])) ?_
  refine qv_v (q_load 0 Try.underlying73 rfl rfl rfl (u32s_atA (by simp only [zs, zr, zm, za, zb, zu, zw, zi, zt, zd, zc, zn, *] <;> first | done | omega))) ?_
  refine qv_v (q_move rfl) ?_
  refine qv_v (q_move rfl) ?_
  refine qv_v (q_idxS0 Try.underlying71 sz73 rfl rfl (by omega) (by rw [Nat.mul_one, Nat.zero_add])) ?_
  refine qv_v (q_load 0 Try.underlying73 rfl rfl rfl (u32s_atA (by simp only [zs, zr, zm, za, zb, zu, zw, zi, zt, zd, zc, zn, *] <;> first | done | omega))) ?_
  refine qv_v (q_xor_u32 rfl rfl) ?_
  refine qv_v (q_callV Try.func67 rfl rfl rfl (fun w1 H1 => rturned_calls _ 7 (by decide) w1)) ?_
  refine qv_end ?_
  refine VL.keep (Sub.cons (s := 0) rfl (Sub.cons (s := 1) rfl (Sub.cons (s := 2) rfl (Sub.cons (s := 3) rfl (Sub.cons (s := 4) rfl (Sub.cons (s := 5) rfl (Sub.cons (s := 6) rfl (Sub.cons (s := 105) rfl (Sub.cons (s := 106) rfl (Sub.cons (s := 116) rfl (Sub.nil _))))))))))) ?_
  refine vl_v (q_idxS0 Try.underlying71 sz73 rfl rfl (by omega) (by rw [Nat.mul_one, Nat.zero_add])) rfl ?_
  refine l_stU32A 0 rfl rfl rfl sz73 (by simp only [zs, zr, zm, za, zb, zu, zw, zi, zt, zd, zc, zn, *] <;> first | done | omega) ?_
  simp only [List.set_cons_zero, List.set_cons_succ]
  refine vl_nil ?_
  refine (qn_n ?_)
  refine ⟨_, res0 rfl, ?_⟩
  exact ⟨rfl, by simp only [mixL, UInt32.add_assoc, Nat.reduceSub]⟩
theorem rfirst_calls (w : World) :
    Calls Try.prog 41 #[] w fun e w' => ∃ v, e = .returned v ∧ St [] w [.row 73 1 v 8 (u32s iv)] w' := by
  refine enter (n := 2) (R := fun e L => ∃ v M, e = .returned v ∧ L = .row 73 1 v 8 (u32s iv) :: M) [] Try.func41 rfl rfl rfl (St.refl w) ?_ endRow
  refine VC_seq ?_
  refine VC_region ?_
  refine vl_v (q_assign rfl) rfl ?_
  refine vl_nil ?_
  refine (th_n ?_)
  refine VC_seq ?_
  refine VC_region ?_
  refine l_litA (cs := u32s [UInt32.ofNat 1779033703, UInt32.ofNat 3144134277, UInt32.ofNat 1013904242, UInt32.ofNat 2773480762, UInt32.ofNat 1359893119, UInt32.ofNat 2600822924, UInt32.ofNat 528734635, UInt32.ofNat 1541459225]) Try.underlying71 in73 (by decide) rfl rfl rfl rfl (by exact one_all rfl) rfl rfl ?_
  intro b1
  refine vl_v (q_assign rfl) rfl ?_
  refine vl_nil ?_
  refine (th_n ?_)
  refine VC_ret ?_
  refine ⟨_, res1 rfl rfl, ?_⟩
  exact ⟨_, _, rfl, rfl⟩
theorem filled_calls (b : List UInt8) (A : Option Addr) (c m : Nat) (hm : m = b.length) (hb : b.length ≤ 64) (w : World) (hA : SlAt w A (bys b)) :
    Calls Try.prog 42 #[.slice A m c] w fun e w' => ∃ v, e = .returned v ∧ St [] w [.row 5 1 v 64 (bys (padB b))] w' := by
  subst hm
  refine enter (n := 10) (R := fun e L => ∃ v M, e = .returned v ∧ L = .row 5 1 v 64 (bys (padB b)) :: M) [.slice A b.length c] Try.func42 rfl rfl rfl (St.refl w) ?_ endRow
  refine VC_seq ?_
  refine VC_region ?_
  refine vl_v (q_assign rfl) rfl ?_
  refine vl_nil ?_
  refine (th_n ?_)
  refine VC_seq ?_
  refine VC_region ?_
  refine l_litA (cs := bys []) Try.underlying45 in5 (by decide) rfl rfl rfl rfl (by exact one_all rfl) rfl rfl ?_
  intro b3
  refine vl_v (q_move rfl) rfl ?_
  refine l_append 0 rfl rfl rfl Try.underlying45 Try.underlying45 in5 rfl (by decide) (Reads.old hA) (by simp only [zb, zu, zw, zi, za]; omega) (by with_reducible first | exact bys_one _ | exact u32s_one _ | exact u64s_one _ | exact i64s_one _ | exact n64s_one _ | assumption) (by omega) (by omega) rfl ?_
  intro A5 c5 hc5
  simp only [List.set_cons_zero, List.set_cons_succ, ← bys_append, ← u32s_append, ← u64s_append, ← i64s_append, List.nil_append, Nat.zero_add]
  refine vl_v (q_move rfl) rfl ?_
  refine vl_v (q_lenS Try.underlying45 rfl) rfl ?_
  refine vl_v (q_sub_n (p := 64) rfl rfl (by omega) (by omega)) rfl ?_
  refine l_appendZ 0 rfl rfl rfl Try.underlying45 Try.underlying3 in5 rfl rfl (by decide) (by omega) (by omega) rfl ?_
  intro A9 c9 hc9
  refine vl_v (q_assign rfl) rfl ?_
  refine vl_nil ?_
  refine (th_n ?_)
  refine VC_ret ?_
  refine ⟨_, res1 rfl rfl, ?_⟩
  exact ⟨_, _, rfl, by simp only [List.set_cons_zero]; rw [show b.length + (64 - b.length) = 64 by omega, padB, bys_append, repB]⟩
end Go.Proofs.Ytabmfndiepmcgaa
end
section
namespace Go.PBYtabmfndiepmcgaa
open Go Go.RowKit
set_option linter.unusedVariables false
end Go.PBYtabmfndiepmcgaa
end
section
namespace Go.PBYtabmfndiepmcgaa
open Go Go.RowKit
set_option linter.unusedVariables false
def rwW (b : List UInt8) : Nat → List UInt32
  | 0 => []
  | i + 1 => rwW b i ++ [word32 (b.drop (4 * i))]
theorem rwW_length (b : List UInt8) : ∀ i, (rwW b i).length = i
  | 0 => rfl
  | i + 1 => by rw [rwW, List.length_append, rwW_length]; rfl
theorem rwW_pad (b : List UInt8) : ∀ i, i ≤ 16 → wordsB b i = rwW b i ++ List.replicate (16 - i) 0
  | 0, _ => rfl
  | i + 1, h => by
    rw [wordsB, rwW_pad b i (by omega), show 16 - i = (16 - (i + 1)) + 1 by omega, List.replicate_succ, rwW, List.append_assoc, List.set_append_right _ _ (by rw [rwW_length]; exact Nat.le_refl _), rwW_length, Nat.sub_self]
    rfl
theorem rwW_words (b : List UInt8) : rwW b 16 = wordsB b 16 := by rw [rwW_pad b 16 (Nat.le_refl _)]; simp
def rxor (h v : List UInt32) : Nat → List UInt32
  | 0 => []
  | i + 1 => rxor h v i ++ [h.getD i 0 ^^^ v.getD i 0 ^^^ v.getD (i + 8) 0]
theorem rxor_length (h v : List UInt32) : ∀ i, (rxor h v i).length = i
  | 0 => rfl
  | i + 1 => by rw [rxor, List.length_append, rxor_length]; rfl
theorem rxor_rest (h v : List UInt32) : ∀ i, i ≤ h.length → xorV h v i = rxor h v i ++ h.drop i
  | 0, _ => rfl
  | i + 1, hi => by
    have hl := rxor_length h v i
    have hd : h.drop i = h.getD i 0 :: h.drop (i + 1) := by
      rw [List.drop_eq_getElem_cons (by omega)]
      simp [List.getD_eq_getElem?_getD, List.getElem?_eq_getElem (show i < h.length by omega)]
    rw [xorV, rxor_rest h v i (by omega), rxor, hd, List.append_assoc, List.set_append_right _ _ (by omega), hl, Nat.sub_self]
    have : (rxor h v i ++ h.getD i 0 :: h.drop (i + 1)).getD i 0 = h.getD i 0 := by
      rw [List.getD_eq_getElem?_getD, List.getElem?_append_right (by omega), hl, Nat.sub_self]
      rfl
    rw [this, List.set_cons_zero, UInt32.xor_assoc]
    rfl
theorem rxor_all (h v : List UInt32) (hh : h.length = 8) : rxor h v 8 = xorV h v 8 := by
  rw [rxor_rest h v 8 (by omega), List.drop_of_length_le (by omega), List.append_nil]
def rints (r : Nat) : List Int := (sRow r).map fun x => (x.toNat : Int)
theorem rints_length {r : Nat} (h : r < 10) : (rints r).length = 16 := by rw [rints, List.length_map, sRow_length h]
theorem rints_at {r j : Nat} (h : r < 10) (hj : j < 16) : (i64s (rints r))[j]? = some (vN (sg r j)) := by
  have hl := sRow_length h
  rw [i64s_at (by rw [rints_length h]; exact hj), rints, List.getD_eq_getElem?_getD, List.getElem?_map, List.getElem?_eq_getElem (by omega)]
  rw [sg, List.getD_eq_getElem?_getD, List.getElem?_eq_getElem (by omega)]
  rfl
end Go.PBYtabmfndiepmcgaa
end
section
namespace Go.Proofs.Ytabmfndiepmcgaa
open Go.RowKit Go.PBYtabmfndiepmcgaa
set_option linter.unusedVariables false
set_option maxRecDepth 10000
set_option linter.unusedSimpArgs false
set_option maxHeartbeats 400000 in
theorem join_calls (ls : List (List UInt8)) (v0 : Value) (w : World) (hv : RowsAt w v0 ls) (hb : (joinB ls).length ≤ 70368744177664) (hn : ls.length ≤ 140737488355328) :
    Calls Try.prog 26 #[v0] w fun e w' => ∃ v, e = .returned v ∧ St [] w [.row 5 1 v (joinB ls).length (bys (joinB ls))] w' := by
  have H := (St.refl w).addNil 5 1
  obtain ⟨A, c, vs, rfl, hc, hA, hvl, hvs⟩ := hv
  have hvl' := Lib.hid hvl
  have hvs' := Lib.hid hvs
  clear hvl hvs
  go_enter Try.func26, Try.ntmps26
  go_wp2_with (first | (with_reducible refine stop_box ?_) | (with_reducible refine stop_alloc ?_) | (with_reducible refine stop_load ?_) | (with_reducible refine stop_store ?_) | (with_reducible refine stop_make ?_) | (with_reducible refine stop_lit ?_) | (with_reducible refine stop_append ?_) | (with_reducible refine stop_copy ?_) | (with_reducible refine stop_map ?_) | (with_reducible refine stop_lookup ?_) | (with_reducible refine stop_update ?_) | (with_reducible refine stop_delete ?_) | (with_reducible refine stop_clear ?_) | (with_reducible refine stop_arr ?_) | (with_reducible refine stop_idx ?_) | (with_reducible refine stop_conv (e := 45) (f := 9) ?_) | ((with_reducible refine stopg_box ?hw ?_); case hw => rfl) | ((with_reducible refine stopg_alloc ?hw ?_); case hw => rfl) | ((with_reducible refine stopg_load ?hw ?_); case hw => rfl) | ((with_reducible refine stopg_store ?hw ?_); case hw => rfl) | ((with_reducible refine stopg_make ?hw ?_); case hw => rfl) | ((with_reducible refine stopg_lit ?hw ?_); case hw => rfl) | ((with_reducible refine stopg_append ?hw ?_); case hw => rfl) | ((with_reducible refine stopg_copy ?hw ?_); case hw => rfl) | ((with_reducible refine stopg_map ?hw ?_); case hw => rfl) | ((with_reducible refine stopg_lookup ?hw ?_); case hw => rfl) | ((with_reducible refine stopg_update ?hw ?_); case hw => rfl) | ((with_reducible refine stopg_delete ?hw ?_); case hw => rfl) | ((with_reducible refine stopg_clear ?hw ?_); case hw => rfl) | ((with_reducible refine stopg_arr ?hw ?_); case hw => rfl) | ((with_reducible refine stopg_conv (e := 45) (f := 9) ?hw ?_); case hw => rfl) | ((with_reducible refine stopg_idx ?hw ?_); case hw => rfl))
  go_loopw [3, 8] (fun v i wr => ∃ (k n : Nat), k ≤ ls.length ∧ i = .int .i64 k ∧ Hid (n = (joinB (ls.take k)).length) ∧ St [] w [.row 5 1 v n (bys (joinB (ls.take k)))] wr) (fun _ i _ => ls.length - (intOf i).toNat)
  case atStart => exact ⟨0, 0, Nat.zero_le _, rfl, rfl, H⟩
  case round =>
    clear H
    obtain ⟨k, n, hk, rfl, hnn, H⟩ := hrel
    by_cases hlt : k < ls.length
    · obtain ⟨b, hx⟩ : ∃ x, ls[k]? = some x := ⟨_, List.getElem?_eq_getElem (by omega)⟩
      obtain ⟨u, hu⟩ : ∃ x, vs[k]? = some x := ⟨_, List.getElem?_eq_getElem (by have := hvl'.out; omega)⟩
      obtain ⟨ad, rfl, hcell⟩ := (H.sl0 hA) k _ hu
      obtain ⟨B, d, rfl, hd, hB⟩ := hvs'.out k u b hu hx
      have hjs : joinB (ls.take (k + 1)) = joinB (ls.take k) ++ highB b.length 4 ++ b := by
        rw [List.take_add_one, hx]
        exact joinB_snoc _ _
      have hjl : (joinB (ls.take (k + 1))).length ≤ (joinB ls).length := by
        have := List.take_append_drop (k + 1) ls
        have h2 : ∀ (x y : List (List UInt8)), joinB (x ++ y) = joinB x ++ joinB y := by
          intro x y
          induction x with
          | nil => rfl
          | cons a x ih => simp [joinB, ih]
        have h3 := congrArg (fun q => (joinB q).length) this
        simp only [h2, List.length_append] at h3
        omega
      have hbl : n + 4 + b.length ≤ 70368744177664 := by
        have := hnn.out
        rw [hjs] at hjl
        simp [highB_length] at hjl
        omega
      have hbx : Hid (ls[k]? = some b ∧ vs[k]? = some _) := ⟨hx, hu⟩
      have hjs' := Lib.hid hjs
      clear hx hu hjs hjl
      go_wp2_with (first | (with_reducible refine stop_box ?_) | (with_reducible refine stop_alloc ?_) | (with_reducible refine stop_load ?_) | (with_reducible refine stop_store ?_) | (with_reducible refine stop_make ?_) | (with_reducible refine stop_lit ?_) | (with_reducible refine stop_append ?_) | (with_reducible refine stop_copy ?_) | (with_reducible refine stop_map ?_) | (with_reducible refine stop_lookup ?_) | (with_reducible refine stop_update ?_) | (with_reducible refine stop_delete ?_) | (with_reducible refine stop_clear ?_) | (with_reducible refine stop_arr ?_) | (with_reducible refine stop_idx ?_) | (with_reducible refine stop_conv (e := 45) (f := 9) ?_) | ((with_reducible refine stopg_box ?hw ?_); case hw => rfl) | ((with_reducible refine stopg_alloc ?hw ?_); case hw => rfl) | ((with_reducible refine stopg_load ?hw ?_); case hw => rfl) | ((with_reducible refine stopg_store ?hw ?_); case hw => rfl) | ((with_reducible refine stopg_make ?hw ?_); case hw => rfl) | ((with_reducible refine stopg_lit ?hw ?_); case hw => rfl) | ((with_reducible refine stopg_append ?hw ?_); case hw => rfl) | ((with_reducible refine stopg_copy ?hw ?_); case hw => rfl) | ((with_reducible refine stopg_map ?hw ?_); case hw => rfl) | ((with_reducible refine stopg_lookup ?hw ?_); case hw => rfl) | ((with_reducible refine stopg_update ?hw ?_); case hw => rfl) | ((with_reducible refine stopg_delete ?hw ?_); case hw => rfl) | ((with_reducible refine stopg_clear ?hw ?_); case hw => rfl) | ((with_reducible refine stopg_arr ?hw ?_); case hw => rfl) | ((with_reducible refine stopg_conv (e := 45) (f := 9) ?hw ?_); case hw => rfl) | ((with_reducible refine stopg_idx ?hw ?_); case hw => rfl))
      refine wpl_want rfl (opw_load Try.underlying45 rfl rfl hcell ?_)
      clear hcell
      go_wp2_with (first | (with_reducible refine stop_box ?_) | (with_reducible refine stop_alloc ?_) | (with_reducible refine stop_load ?_) | (with_reducible refine stop_store ?_) | (with_reducible refine stop_make ?_) | (with_reducible refine stop_lit ?_) | (with_reducible refine stop_append ?_) | (with_reducible refine stop_copy ?_) | (with_reducible refine stop_map ?_) | (with_reducible refine stop_lookup ?_) | (with_reducible refine stop_update ?_) | (with_reducible refine stop_delete ?_) | (with_reducible refine stop_clear ?_) | (with_reducible refine stop_arr ?_) | (with_reducible refine stop_idx ?_) | (with_reducible refine stop_conv (e := 45) (f := 9) ?_) | ((with_reducible refine stopg_box ?hw ?_); case hw => rfl) | ((with_reducible refine stopg_alloc ?hw ?_); case hw => rfl) | ((with_reducible refine stopg_load ?hw ?_); case hw => rfl) | ((with_reducible refine stopg_store ?hw ?_); case hw => rfl) | ((with_reducible refine stopg_make ?hw ?_); case hw => rfl) | ((with_reducible refine stopg_lit ?hw ?_); case hw => rfl) | ((with_reducible refine stopg_append ?hw ?_); case hw => rfl) | ((with_reducible refine stopg_copy ?hw ?_); case hw => rfl) | ((with_reducible refine stopg_map ?hw ?_); case hw => rfl) | ((with_reducible refine stopg_lookup ?hw ?_); case hw => rfl) | ((with_reducible refine stopg_update ?hw ?_); case hw => rfl) | ((with_reducible refine stopg_delete ?hw ?_); case hw => rfl) | ((with_reducible refine stopg_clear ?hw ?_); case hw => rfl) | ((with_reducible refine stopg_arr ?hw ?_); case hw => rfl) | ((with_reducible refine stopg_conv (e := 45) (f := 9) ?hw ?_); case hw => rfl) | ((with_reducible refine stopg_idx ?hw ?_); case hw => rfl))
      refine (high_calls b.length 4 4 rfl (by omega) wr).mono ?_
      rintro e w1 ⟨hv, rfl, H1⟩
      obtain ⟨hA1, hc1, rfl, hcc, _, hhs⟩ := (H1.get (k := 0) rfl).slice
      have H2 := H.keep H1.kept
      clear H
      go_wp2_with (first | (with_reducible refine stop_box ?_) | (with_reducible refine stop_alloc ?_) | (with_reducible refine stop_load ?_) | (with_reducible refine stop_store ?_) | (with_reducible refine stop_make ?_) | (with_reducible refine stop_lit ?_) | (with_reducible refine stop_append ?_) | (with_reducible refine stop_copy ?_) | (with_reducible refine stop_map ?_) | (with_reducible refine stop_lookup ?_) | (with_reducible refine stop_update ?_) | (with_reducible refine stop_delete ?_) | (with_reducible refine stop_clear ?_) | (with_reducible refine stop_arr ?_) | (with_reducible refine stop_idx ?_) | (with_reducible refine stop_conv (e := 45) (f := 9) ?_) | ((with_reducible refine stopg_box ?hw ?_); case hw => rfl) | ((with_reducible refine stopg_alloc ?hw ?_); case hw => rfl) | ((with_reducible refine stopg_load ?hw ?_); case hw => rfl) | ((with_reducible refine stopg_store ?hw ?_); case hw => rfl) | ((with_reducible refine stopg_make ?hw ?_); case hw => rfl) | ((with_reducible refine stopg_lit ?hw ?_); case hw => rfl) | ((with_reducible refine stopg_append ?hw ?_); case hw => rfl) | ((with_reducible refine stopg_copy ?hw ?_); case hw => rfl) | ((with_reducible refine stopg_map ?hw ?_); case hw => rfl) | ((with_reducible refine stopg_lookup ?hw ?_); case hw => rfl) | ((with_reducible refine stopg_update ?hw ?_); case hw => rfl) | ((with_reducible refine stopg_delete ?hw ?_); case hw => rfl) | ((with_reducible refine stopg_clear ?hw ?_); case hw => rfl) | ((with_reducible refine stopg_arr ?hw ?_); case hw => rfl) | ((with_reducible refine stopg_conv (e := 45) (f := 9) ?hw ?_); case hw => rfl) | ((with_reducible refine stopg_idx ?hw ?_); case hw => rfl))
      refine wpl_want rfl (opw_append (k := 0) H2 rfl Try.underlying45 Try.underlying45 u8info rfl (by omega) rfl rfl hhs (by simp [bys, highB_length]) (bys_one _) (by omega) (by omega) ?_)
      intro w3 v3 H3
      have hB3 := (H3.sl0 hB)
      clear H1 H2 hhs
      go_wp2_with (first | (with_reducible refine stop_box ?_) | (with_reducible refine stop_alloc ?_) | (with_reducible refine stop_load ?_) | (with_reducible refine stop_store ?_) | (with_reducible refine stop_make ?_) | (with_reducible refine stop_lit ?_) | (with_reducible refine stop_append ?_) | (with_reducible refine stop_copy ?_) | (with_reducible refine stop_map ?_) | (with_reducible refine stop_lookup ?_) | (with_reducible refine stop_update ?_) | (with_reducible refine stop_delete ?_) | (with_reducible refine stop_clear ?_) | (with_reducible refine stop_arr ?_) | (with_reducible refine stop_idx ?_) | (with_reducible refine stop_conv (e := 45) (f := 9) ?_) | ((with_reducible refine stopg_box ?hw ?_); case hw => rfl) | ((with_reducible refine stopg_alloc ?hw ?_); case hw => rfl) | ((with_reducible refine stopg_load ?hw ?_); case hw => rfl) | ((with_reducible refine stopg_store ?hw ?_); case hw => rfl) | ((with_reducible refine stopg_make ?hw ?_); case hw => rfl) | ((with_reducible refine stopg_lit ?hw ?_); case hw => rfl) | ((with_reducible refine stopg_append ?hw ?_); case hw => rfl) | ((with_reducible refine stopg_copy ?hw ?_); case hw => rfl) | ((with_reducible refine stopg_map ?hw ?_); case hw => rfl) | ((with_reducible refine stopg_lookup ?hw ?_); case hw => rfl) | ((with_reducible refine stopg_update ?hw ?_); case hw => rfl) | ((with_reducible refine stopg_delete ?hw ?_); case hw => rfl) | ((with_reducible refine stopg_clear ?hw ?_); case hw => rfl) | ((with_reducible refine stopg_arr ?hw ?_); case hw => rfl) | ((with_reducible refine stopg_conv (e := 45) (f := 9) ?hw ?_); case hw => rfl) | ((with_reducible refine stopg_idx ?hw ?_); case hw => rfl))
      refine wpl_want rfl (opw_append (k := 0) H3 rfl Try.underlying45 Try.underlying45 u8info rfl (by omega) rfl rfl hB3 (by simp [bys]) (bys_one _) (by omega) (by omega) ?_)
      intro w4 v4 H4
      clear H3
      go_wp2_with (first | (with_reducible refine stop_box ?_) | (with_reducible refine stop_alloc ?_) | (with_reducible refine stop_load ?_) | (with_reducible refine stop_store ?_) | (with_reducible refine stop_make ?_) | (with_reducible refine stop_lit ?_) | (with_reducible refine stop_append ?_) | (with_reducible refine stop_copy ?_) | (with_reducible refine stop_map ?_) | (with_reducible refine stop_lookup ?_) | (with_reducible refine stop_update ?_) | (with_reducible refine stop_delete ?_) | (with_reducible refine stop_clear ?_) | (with_reducible refine stop_arr ?_) | (with_reducible refine stop_idx ?_) | (with_reducible refine stop_conv (e := 45) (f := 9) ?_) | ((with_reducible refine stopg_box ?hw ?_); case hw => rfl) | ((with_reducible refine stopg_alloc ?hw ?_); case hw => rfl) | ((with_reducible refine stopg_load ?hw ?_); case hw => rfl) | ((with_reducible refine stopg_store ?hw ?_); case hw => rfl) | ((with_reducible refine stopg_make ?hw ?_); case hw => rfl) | ((with_reducible refine stopg_lit ?hw ?_); case hw => rfl) | ((with_reducible refine stopg_append ?hw ?_); case hw => rfl) | ((with_reducible refine stopg_copy ?hw ?_); case hw => rfl) | ((with_reducible refine stopg_map ?hw ?_); case hw => rfl) | ((with_reducible refine stopg_lookup ?hw ?_); case hw => rfl) | ((with_reducible refine stopg_update ?hw ?_); case hw => rfl) | ((with_reducible refine stopg_delete ?hw ?_); case hw => rfl) | ((with_reducible refine stopg_clear ?hw ?_); case hw => rfl) | ((with_reducible refine stopg_arr ?hw ?_); case hw => rfl) | ((with_reducible refine stopg_conv (e := 45) (f := 9) ?hw ?_); case hw => rfl) | ((with_reducible refine stopg_idx ?hw ?_); case hw => rfl))
      refine ⟨⟨k + 1, n + 4 + b.length, by omega, by go_num, ?_, ?_⟩, by simp [intOf]; omega⟩
      · show _ = _
        rw [hjs'.out, hnn.out]
        simp [highB_length]
        omega
      · rw [hjs'.out, bys_append, bys_append]
        exact H4
    · go_wp2_with (first | (with_reducible refine stop_box ?_) | (with_reducible refine stop_alloc ?_) | (with_reducible refine stop_load ?_) | (with_reducible refine stop_store ?_) | (with_reducible refine stop_make ?_) | (with_reducible refine stop_lit ?_) | (with_reducible refine stop_append ?_) | (with_reducible refine stop_copy ?_) | (with_reducible refine stop_map ?_) | (with_reducible refine stop_lookup ?_) | (with_reducible refine stop_update ?_) | (with_reducible refine stop_delete ?_) | (with_reducible refine stop_clear ?_) | (with_reducible refine stop_arr ?_) | (with_reducible refine stop_idx ?_) | (with_reducible refine stop_conv (e := 45) (f := 9) ?_) | ((with_reducible refine stopg_box ?hw ?_); case hw => rfl) | ((with_reducible refine stopg_alloc ?hw ?_); case hw => rfl) | ((with_reducible refine stopg_load ?hw ?_); case hw => rfl) | ((with_reducible refine stopg_store ?hw ?_); case hw => rfl) | ((with_reducible refine stopg_make ?hw ?_); case hw => rfl) | ((with_reducible refine stopg_lit ?hw ?_); case hw => rfl) | ((with_reducible refine stopg_append ?hw ?_); case hw => rfl) | ((with_reducible refine stopg_copy ?hw ?_); case hw => rfl) | ((with_reducible refine stopg_map ?hw ?_); case hw => rfl) | ((with_reducible refine stopg_lookup ?hw ?_); case hw => rfl) | ((with_reducible refine stopg_update ?hw ?_); case hw => rfl) | ((with_reducible refine stopg_delete ?hw ?_); case hw => rfl) | ((with_reducible refine stopg_clear ?hw ?_); case hw => rfl) | ((with_reducible refine stopg_arr ?hw ?_); case hw => rfl) | ((with_reducible refine stopg_conv (e := 45) (f := 9) ?hw ?_); case hw => rfl) | ((with_reducible refine stopg_idx ?hw ?_); case hw => rfl))
      have : k = ls.length := by omega
      subst this
      go_ret
      rw [List.take_length] at H hnn
      have := hnn.out
      subst this
      exact ⟨_, rfl, H⟩
end Go.Proofs.Ytabmfndiepmcgaa
end
section
namespace Go.Proofs.Ytabmfndiepmcgaa
open Go.RowKit Go.PBYtabmfndiepmcgaa
set_option linter.unusedVariables false
set_option maxRecDepth 10000
set_option linter.unusedSimpArgs false
set_option maxRecDepth 4000 in
/-- reading from behind: the number of the bytes from k on, turned -/
theorem take_rev (l : List UInt8) (j : Nat) (x : UInt8) (hx : l[j]? = some x) : ofHigh ((l.drop j).reverse) = ofHigh ((l.drop (j + 1)).reverse) * 256 + x.toNat := by
  have hj := (List.getElem?_eq_some_iff.1 hx).1
  have hx' := (List.getElem?_eq_some_iff.1 hx).2
  rw [List.drop_eq_getElem_cons hj, List.reverse_cons, ofHigh_snoc, hx']
set_option maxHeartbeats 400000 in
theorem rofLow_calls (l : List UInt8) (A : Option Addr) (c : Nat) (w : World) (hA : SlAt w A (bys l)) (hc : l.length ≤ c) (hl : l.length ≤ 140737488355328) :
    Calls Try.prog 59 #[.slice A l.length c] w fun e w' => e = .returned (.int .u64 (ofHigh (l.take 8).reverse)) ∧ Kept [] w w' := by
  obtain ⟨K, hK⟩ : ∃ K, K = min l.length 8 := ⟨_, rfl⟩
  have hK4 : (if 8 < (l.length : Int) then 8 else (l.length : Int)) = (K : Int) := by split <;> omega
  have hK3 : K ≤ 8 := by omega
  have hK5 : K ≤ l.length := by omega
  have e8 : Hid (l.take 8 = l.take K) := by
    by_cases h : l.length ≤ 8
    · show _ = _
      rw [List.take_of_length_le (by omega), List.take_of_length_le (by omega)]
    · have : K = 8 := by omega
      rw [this]
      rfl
  clear hK
  go_enter Try.func59, Try.ntmps59
  go_wp2_with (first | (with_reducible refine stop_box ?_) | (with_reducible refine stop_alloc ?_) | (with_reducible refine stop_load ?_) | (with_reducible refine stop_store ?_) | (with_reducible refine stop_make ?_) | (with_reducible refine stop_lit ?_) | (with_reducible refine stop_append ?_) | (with_reducible refine stop_copy ?_) | (with_reducible refine stop_map ?_) | (with_reducible refine stop_lookup ?_) | (with_reducible refine stop_update ?_) | (with_reducible refine stop_delete ?_) | (with_reducible refine stop_clear ?_) | (with_reducible refine stop_arr ?_) | (with_reducible refine stop_idx ?_) | (with_reducible refine stop_conv (e := 45) (f := 9) ?_) | ((with_reducible refine stopg_box ?hw ?_); case hw => rfl) | ((with_reducible refine stopg_alloc ?hw ?_); case hw => rfl) | ((with_reducible refine stopg_load ?hw ?_); case hw => rfl) | ((with_reducible refine stopg_store ?hw ?_); case hw => rfl) | ((with_reducible refine stopg_make ?hw ?_); case hw => rfl) | ((with_reducible refine stopg_lit ?hw ?_); case hw => rfl) | ((with_reducible refine stopg_append ?hw ?_); case hw => rfl) | ((with_reducible refine stopg_copy ?hw ?_); case hw => rfl) | ((with_reducible refine stopg_map ?hw ?_); case hw => rfl) | ((with_reducible refine stopg_lookup ?hw ?_); case hw => rfl) | ((with_reducible refine stopg_update ?hw ?_); case hw => rfl) | ((with_reducible refine stopg_delete ?hw ?_); case hw => rfl) | ((with_reducible refine stopg_clear ?hw ?_); case hw => rfl) | ((with_reducible refine stopg_arr ?hw ?_); case hw => rfl) | ((with_reducible refine stopg_conv (e := 45) (f := 9) ?hw ?_); case hw => rfl) | ((with_reducible refine stopg_idx ?hw ?_); case hw => rfl))
  go_loopw [3, 4] (fun n v wr => ∃ k : Nat, k ≤ K ∧ v = .int .i64 ((k : Int) - 1) ∧ n = .int .u64 (ofHigh ((l.take K).drop k).reverse) ∧ Kept [] w wr) (fun _ v _ => (intOf v + 1).toNat)
  case atStart => exact ⟨K, Nat.le_refl _, rfl, by rw [List.drop_of_length_le (by rw [List.length_take]; omega)]; rfl, Kept.refl _ _⟩
  case round =>
    obtain ⟨k, hk, rfl, rfl, hKw⟩ := hrel
    by_cases h0 : k = 0
    · subst h0
      go_wp2_with (first | (with_reducible refine stop_box ?_) | (with_reducible refine stop_alloc ?_) | (with_reducible refine stop_load ?_) | (with_reducible refine stop_store ?_) | (with_reducible refine stop_make ?_) | (with_reducible refine stop_lit ?_) | (with_reducible refine stop_append ?_) | (with_reducible refine stop_copy ?_) | (with_reducible refine stop_map ?_) | (with_reducible refine stop_lookup ?_) | (with_reducible refine stop_update ?_) | (with_reducible refine stop_delete ?_) | (with_reducible refine stop_clear ?_) | (with_reducible refine stop_arr ?_) | (with_reducible refine stop_idx ?_) | (with_reducible refine stop_conv (e := 45) (f := 9) ?_) | ((with_reducible refine stopg_box ?hw ?_); case hw => rfl) | ((with_reducible refine stopg_alloc ?hw ?_); case hw => rfl) | ((with_reducible refine stopg_load ?hw ?_); case hw => rfl) | ((with_reducible refine stopg_store ?hw ?_); case hw => rfl) | ((with_reducible refine stopg_make ?hw ?_); case hw => rfl) | ((with_reducible refine stopg_lit ?hw ?_); case hw => rfl) | ((with_reducible refine stopg_append ?hw ?_); case hw => rfl) | ((with_reducible refine stopg_copy ?hw ?_); case hw => rfl) | ((with_reducible refine stopg_map ?hw ?_); case hw => rfl) | ((with_reducible refine stopg_lookup ?hw ?_); case hw => rfl) | ((with_reducible refine stopg_update ?hw ?_); case hw => rfl) | ((with_reducible refine stopg_delete ?hw ?_); case hw => rfl) | ((with_reducible refine stopg_clear ?hw ?_); case hw => rfl) | ((with_reducible refine stopg_arr ?hw ?_); case hw => rfl) | ((with_reducible refine stopg_conv (e := 45) (f := 9) ?hw ?_); case hw => rfl) | ((with_reducible refine stopg_idx ?hw ?_); case hw => rfl))
      go_ret
      refine ⟨?_, hKw⟩
      rw [e8.out]
      rfl
    · obtain ⟨j, rfl⟩ : ∃ j, k = j + 1 := ⟨k - 1, by omega⟩
      have hj : ((j + 1 : Nat) : Int) - 1 = (j : Int) := by omega
      rw [hj]
      clear hj h0
      obtain ⟨x, hx⟩ : ∃ x, l[j]? = some x := ⟨_, List.getElem?_eq_getElem (by omega)⟩
      obtain ⟨ad, rfl, hcell⟩ := (hA.keep hKw) j _ (by rw [bys_get, hx]; rfl)
      clear hA
      have hsn := Lib.hid (take_rev (l.take K) j x (by rw [List.getElem?_take, if_pos (by omega)]; exact hx))
      have h7 := Lib.hid (ofHigh_lt7 ((l.take K).drop (j + 1)).reverse (by simp; omega))
      clear hx
      generalize ofHigh ((l.take K).drop (j + 1)).reverse = m at *
      have hj0 : (0 : Int) ≤ (j : Int) := by omega
      have hjl : (j : Int) < (l.length : Int) := by omega
      go_wp2_with (first | (with_reducible refine stop_box ?_) | (with_reducible refine stop_alloc ?_) | (with_reducible refine stop_load ?_) | (with_reducible refine stop_store ?_) | (with_reducible refine stop_make ?_) | (with_reducible refine stop_lit ?_) | (with_reducible refine stop_append ?_) | (with_reducible refine stop_copy ?_) | (with_reducible refine stop_map ?_) | (with_reducible refine stop_lookup ?_) | (with_reducible refine stop_update ?_) | (with_reducible refine stop_delete ?_) | (with_reducible refine stop_clear ?_) | (with_reducible refine stop_arr ?_) | (with_reducible refine stop_idx ?_) | (with_reducible refine stop_conv (e := 45) (f := 9) ?_) | ((with_reducible refine stopg_box ?hw ?_); case hw => rfl) | ((with_reducible refine stopg_alloc ?hw ?_); case hw => rfl) | ((with_reducible refine stopg_load ?hw ?_); case hw => rfl) | ((with_reducible refine stopg_store ?hw ?_); case hw => rfl) | ((with_reducible refine stopg_make ?hw ?_); case hw => rfl) | ((with_reducible refine stopg_lit ?hw ?_); case hw => rfl) | ((with_reducible refine stopg_append ?hw ?_); case hw => rfl) | ((with_reducible refine stopg_copy ?hw ?_); case hw => rfl) | ((with_reducible refine stopg_map ?hw ?_); case hw => rfl) | ((with_reducible refine stopg_lookup ?hw ?_); case hw => rfl) | ((with_reducible refine stopg_update ?hw ?_); case hw => rfl) | ((with_reducible refine stopg_delete ?hw ?_); case hw => rfl) | ((with_reducible refine stopg_clear ?hw ?_); case hw => rfl) | ((with_reducible refine stopg_arr ?hw ?_); case hw => rfl) | ((with_reducible refine stopg_conv (e := 45) (f := 9) ?hw ?_); case hw => rfl) | ((with_reducible refine stopg_idx ?hw ?_); case hw => rfl))
      refine wpl_want rfl (opw_load Try.underlying5 rfl rfl hcell ?_)
      clear hcell
      have hx8 := u8_lt x
      go_wp2_with (first | (with_reducible refine stop_box ?_) | (with_reducible refine stop_alloc ?_) | (with_reducible refine stop_load ?_) | (with_reducible refine stop_store ?_) | (with_reducible refine stop_make ?_) | (with_reducible refine stop_lit ?_) | (with_reducible refine stop_append ?_) | (with_reducible refine stop_copy ?_) | (with_reducible refine stop_map ?_) | (with_reducible refine stop_lookup ?_) | (with_reducible refine stop_update ?_) | (with_reducible refine stop_delete ?_) | (with_reducible refine stop_clear ?_) | (with_reducible refine stop_arr ?_) | (with_reducible refine stop_idx ?_) | (with_reducible refine stop_conv (e := 45) (f := 9) ?_) | ((with_reducible refine stopg_box ?hw ?_); case hw => rfl) | ((with_reducible refine stopg_alloc ?hw ?_); case hw => rfl) | ((with_reducible refine stopg_load ?hw ?_); case hw => rfl) | ((with_reducible refine stopg_store ?hw ?_); case hw => rfl) | ((with_reducible refine stopg_make ?hw ?_); case hw => rfl) | ((with_reducible refine stopg_lit ?hw ?_); case hw => rfl) | ((with_reducible refine stopg_append ?hw ?_); case hw => rfl) | ((with_reducible refine stopg_copy ?hw ?_); case hw => rfl) | ((with_reducible refine stopg_map ?hw ?_); case hw => rfl) | ((with_reducible refine stopg_lookup ?hw ?_); case hw => rfl) | ((with_reducible refine stopg_update ?hw ?_); case hw => rfl) | ((with_reducible refine stopg_delete ?hw ?_); case hw => rfl) | ((with_reducible refine stopg_clear ?hw ?_); case hw => rfl) | ((with_reducible refine stopg_arr ?hw ?_); case hw => rfl) | ((with_reducible refine stopg_conv (e := 45) (f := 9) ?hw ?_); case hw => rfl) | ((with_reducible refine stopg_idx ?hw ?_); case hw => rfl))
      exact ⟨⟨j, by omega, rfl, by rw [hsn.out, shl_byte' _ _ h7.out], hKw⟩, by simp [intOf]⟩
theorem div_step (n k : Nat) : n / 2 ^ (8 * k) / 256 = n / 2 ^ (8 * (k + 1)) := by
  rw [Nat.div_div_eq_div_mul, show 8 * (k + 1) = 8 * k + 8 by omega, Nat.pow_add]
theorem div256 (d : Nat) (h : d < 18446744073709551616) : IntKind.u64.wrap ((d : Int) / 256) = ((d / 256 : Nat) : Int) := by
  rw [IntKind.wrap_u64]
  omega
theorem byte_of (m : Nat) : IntKind.u8.wrap (m : Int) = ((UInt8.ofNat m).toNat : Int) := by
  rw [IntKind.wrap_u8, UInt8.toNat_ofNat']
  omega
end Go.Proofs.Ytabmfndiepmcgaa
end
section
namespace Go.Proofs.Ytabmfndiepmcgaa
open Go.RowKit Go.PBYtabmfndiepmcgaa
set_option linter.unusedVariables false
set_option linter.unusedSimpArgs false
set_option maxRecDepth 10000
def rowV (bf : Nat → Nat) (r : Nat) : Value := .slice (some ⟨bf r, 0, none⟩) 16 16
def rvals (bf : Nat → Nat) : List Value := (List.range 10).map (rowV bf)
def rowsR (bf : Nat → Nat) : List Res := (List.range 10).map fun k => .row 3 1 (rowV bf (9 - k)) 16 (i64s (rints (9 - k)))
theorem rowsR_at (bf : Nat → Nat) (r : Nat) (h : r < 10) : (rowsR bf)[9 - r]? = some (.row 3 1 (rowV bf r) 16 (i64s (rints r))) := by
  rw [rowsR, List.getElem?_map, List.getElem?_range (by omega)]
  simp only [Option.map_some, show 9 - (9 - r) = r by omega]
theorem rvals_length (bf : Nat → Nat) : (rvals bf).length = 10 := by simp [rvals]
theorem rvals_at (bf : Nat → Nat) (r : Nat) (h : r < 10) : (rvals bf)[r]? = some (rowV bf r) := by
  rw [rvals, List.getElem?_map, List.getElem?_range h]; rfl
theorem rowsRd {S : List Nat} {w0 : World} (bf : Nat → Nat) (r : Nat) (h : r < 10) (a b c : Res) : Reads S w0 (a :: b :: c :: rowsR bf) (some ⟨bf r, 0, none⟩) (i64s (rints r)) :=
  Reads.row (9 - r + 3) (by simp only [List.getElem?_cons_succ]; exact rowsR_at bf r h)
set_option maxHeartbeats 1000000 in
theorem rrows_calls (w : World) :
    Calls Try.prog 60 #[] w fun e w' => ∃ v bf, e = .returned v ∧ St [] w (.row 97 1 v 10 (rvals bf) :: rowsR bf) w' := by
  refine enter (n := 12) (R := fun e L => ∃ v bf, e = .returned v ∧ L = .row 97 1 v 10 (rvals bf) :: rowsR bf) [] Try.func60 rfl rfl rfl (St.refl w) ?_ (fun e w' L' ⟨v, bf, h1, h2⟩ H => ⟨v, bf, h1, h2 ▸ H⟩)
  refine VC_seq ?_
  refine VC_region ?_
  refine vl_v (q_assign rfl) rfl ?_
  refine vl_nil ?_
  refine (th_n ?_)
  refine VC_seq ?_
  refine VC_region ?_
  refine l_litA (cs := i64s [(0), (1), (2), (3), (4), (5), (6), (7), (8), (9), (10), (11), (12), (13), (14), (15)]) Try.underlying97 in3 (by decide) rfl rfl rfl rfl (by exact one_all rfl) rfl rfl ?_
  intro b1
  refine l_litA (cs := i64s [(14), (10), (4), (8), (9), (15), (13), (6), (1), (12), (0), (2), (11), (7), (5), (3)]) Try.underlying97 in3 (by decide) rfl rfl rfl rfl (by exact one_all rfl) rfl rfl ?_
  intro b2
  refine l_litA (cs := i64s [(11), (8), (12), (0), (5), (2), (15), (13), (10), (14), (3), (6), (7), (1), (9), (4)]) Try.underlying97 in3 (by decide) rfl rfl rfl rfl (by exact one_all rfl) rfl rfl ?_
  intro b3
  refine l_litA (cs := i64s [(7), (9), (3), (1), (13), (12), (11), (14), (2), (6), (5), (10), (4), (0), (15), (8)]) Try.underlying97 in3 (by decide) rfl rfl rfl rfl (by exact one_all rfl) rfl rfl ?_
  intro b4
  refine l_litA (cs := i64s [(9), (0), (5), (7), (2), (4), (10), (15), (14), (1), (11), (12), (6), (8), (3), (13)]) Try.underlying97 in3 (by decide) rfl rfl rfl rfl (by exact one_all rfl) rfl rfl ?_
  intro b5
  refine l_litA (cs := i64s [(2), (12), (6), (10), (0), (11), (8), (3), (4), (13), (7), (5), (15), (14), (1), (9)]) Try.underlying97 in3 (by decide) rfl rfl rfl rfl (by exact one_all rfl) rfl rfl ?_
  intro b6
  refine l_litA (cs := i64s [(12), (5), (1), (15), (14), (13), (4), (10), (0), (7), (6), (3), (9), (2), (8), (11)]) Try.underlying97 in3 (by decide) rfl rfl rfl rfl (by exact one_all rfl) rfl rfl ?_
  intro b7
  refine l_litA (cs := i64s [(13), (11), (7), (14), (12), (1), (3), (9), (5), (0), (15), (4), (8), (6), (2), (10)]) Try.underlying97 in3 (by decide) rfl rfl rfl rfl (by exact one_all rfl) rfl rfl ?_
  intro b8
  refine l_litA (cs := i64s [(6), (15), (14), (9), (11), (3), (0), (8), (12), (2), (13), (7), (1), (4), (10), (5)]) Try.underlying97 in3 (by decide) rfl rfl rfl rfl (by exact one_all rfl) rfl rfl ?_
  intro b9
  refine l_litA (cs := i64s [(10), (2), (8), (4), (7), (6), (1), (5), (15), (11), (9), (14), (3), (12), (13), (0)]) Try.underlying97 in3 (by decide) rfl rfl rfl rfl (by exact one_all rfl) rfl rfl ?_
  intro b10
  refine l_lit Try.underlying95 in97 (by decide) rfl (ps := [(0, _), (1, _), (2, _), (3, _), (4, _), (5, _), (6, _), (7, _), (8, _), (9, _)]) rfl rfl (by simp [Value.oneCell']) rfl ?_
  intro b11
  refine vl_v (q_assign rfl) rfl ?_
  refine vl_nil ?_
  refine (th_n ?_)
  refine VC_ret ?_
  refine ⟨_, res1 rfl rfl, ?_⟩
  exact ⟨_, fun r => ([b1, b2, b3, b4, b5, b6, b7, b8, b9, b10] : List Nat).getD r 0, rfl, rfl⟩
theorem rrows_more {S : List Nat} {w0 : World} {L : List Res} (w : World) (H : St S w0 L w) :
    Calls Try.prog 60 #[] w fun e w' => ∃ v L', e = .returned v ∧ (∃ A c bf, v = .slice A 10 c ∧ 10 ≤ c ∧ L' = L ++ .row 97 1 (.slice A 10 c) 10 (rvals bf) :: rowsR bf) ∧ St S w0 L' w' :=
  (rrows_calls w).mono fun e w' ⟨v, bf, h1, h2⟩ => by
    have hrow : Res.ok w' (.row 97 1 v 10 (rvals bf)) := h2.get (k := 0) rfl
    obtain ⟨A, c, h3, h4, _, _⟩ := Row.slice hrow
    subst h3
    exact ⟨_, _, h1, ⟨A, c, bf, rfl, h4, rfl⟩, H.join h2⟩
theorem rofA (l : List UInt8) (A : Option Addr) (o m r c : Nat) (w : World) (hA : SlAt w A (bys l)) (ho : o + 4 ≤ l.length) (hm : l.length ≤ m) (hr : r = 4) (hc : 4 ≤ c) (hl : l.length ≤ 1000) :
    Calls Try.prog 59 #[.slice (PBYtabmfndiepmcgaa.adv A o m 1) r c] w fun e w' => e = .returned (.int .u64 (ofHigh ((l.drop o).take 4).reverse)) ∧ Kept [] w w' := by
  subst hr
  have e1 : ((l.drop o).take 4).length = 4 := by rw [List.length_take, List.length_drop]; omega
  have h := rofLow_calls ((l.drop o).take 4) (PBYtabmfndiepmcgaa.adv A o m 1) c w (by
    have := (hA.adv (l := o) (m := m) (sz := 1) (by rw [bys_length, Nat.mul_one]; exact hm)).take 4
    rwa [Nat.mul_one, bys_drop, bys_take] at this) (by rw [e1]; exact hc) (by rw [e1]; omega)
  rw [e1, List.take_of_length_le (l := (l.drop o).take 4) (by rw [e1]; omega)] at h
  exact h
end Go.Proofs.Ytabmfndiepmcgaa
end
