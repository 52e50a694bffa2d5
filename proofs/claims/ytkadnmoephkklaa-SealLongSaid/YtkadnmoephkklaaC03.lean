/- What the functions of package blake do: mixing, and a block that goes into the words. No condition. -/
import Derived.Test.YtkadnmoephkklaaY
import Derived.Test.YtkadnmoephkklaaS03
import Derived.Test.YtkadnmoephkklaaK01
namespace Go.Proofs.Ytkadnmoephkklaa
open Go.RowKit Go.PBYtkadnmoephkklaa
set_option linter.unusedVariables false
set_option linter.unusedSimpArgs false
set_option maxRecDepth 10000

theorem rot_calls (x : UInt32) (k : Int) (r : Int) (m : Nat) (hr : IntKind.u64.wrap k = r) (hm : IntKind.u64.wrap ((BitVec.ofInt IntKind.u64.bits r &&& BitVec.ofInt IntKind.u64.bits 31).toNat : Int) = (m : Int)) (h31 : m < 32) (w : World) :
    Calls Try.prog 64 #[vU32 x, vI k] w fun e w' => e = .returned (vU32 (rotl x m)) ∧ Kept [] w w' := by
  refine enter (n := 17) (R := fun e L => e = .returned (vU32 (rotl x m))) [vU32 x, vI k] Try.func64 rfl rfl rfl (St.refl w) ?_ (fun e w' L' h H => ⟨h, H.kept⟩)
  refine VC_seq ?_
  refine VC_region ?_
  refine vl_v (q_assign rfl) rfl ?_
  refine vl_nil ?_
  refine (th_n ?_)
  refine VC_seq ?_
  refine VC_region ?_
  refine vl_v (q_move rfl) rfl ?_
  refine vl_v (q_conv_k Try.underlying3 Try.underlying60 rfl hr) rfl ?_
  refine vl_v (q_and_k rfl rfl hm) rfl ?_
  refine vl_v (q_assign rfl) rfl ?_
  refine vl_nil ?_
  refine (th_n ?_)
  refine VC_seq ?_
  refine VC_region ?_
  refine vl_v (q_move rfl) rfl ?_
  refine vl_v (q_move rfl) rfl ?_
  refine vl_v (q_shl_u32 rfl rfl) rfl ?_
  refine vl_v (q_move rfl) rfl ?_
  refine vl_v (q_move rfl) rfl ?_
  refine vl_v (q_sub_k rfl rfl (r := ((32 - m : Nat) : Int)) (by rw [IntKind.wrap_u64]; omega)) rfl ?_
  refine vl_v (q_shr_u32 rfl rfl) rfl ?_
  refine vl_v (q_or_u32 rfl rfl) rfl ?_
  refine vl_v (q_assign rfl) rfl ?_
  refine vl_nil ?_
  refine (th_n ?_)
  refine VC_ret ?_
  refine ⟨_, res1 rfl rfl, ?_⟩
  exact rfl

set_option maxHeartbeats 1000000 in
theorem mix_calls {S : List Nat} {w0 : World} {R : List Res} (l : List UInt32) (ia ib ic id : Nat) (x y : UInt32) (bl : Nat) (hl : l.length = 16) (h1 : ia < 16) (h2 : ib < 16) (h3 : ic < 16) (h4 : id < 16) (w : World) (H : St S w0 (.blk bl 81 (u32s l) :: R) w) :
    Calls Try.prog 54 #[vP bl ia, vP bl ib, vP bl ic, vP bl id, vU32 x, vU32 y] w fun e w' => e = .returned (.tuple #[]) ∧ St S w0 (.blk bl 81 (u32s (mixL l ia ib ic id x y)) :: R) w' := by
  refine enter (n := 88) (R := fun e L => e = .returned (.tuple #[]) ∧ L = .blk bl 81 (u32s (mixL l ia ib ic id x y)) :: R) [vP bl ia, vP bl ib, vP bl ic, vP bl id, vU32 x, vU32 y] Try.func54 rfl rfl rfl H ?_ (fun e w' L' h H => ⟨h.1, h.2 ▸ H⟩)
  refine VC_seq ?_
  refine VC_drawV 8 [[], [0], [1], [], [3], [4], [], [5, 6], [2, 7], [0, 1, 2, 3, 4, 5, 6, 7, 8], [9, 8, 0, 1, 2, 3, 4, 5, 6, 7]] [[], [0], [0, 1], [], [3], [3, 4], [], [3, 4, 5, 6], [0, 1, 2, 3, 4, 5, 6, 7], [0, 1, 2, 3, 4, 5, 6, 7, 8], [0, 1, 2, 3, 4, 5, 6, 7, 8, 9]] rfl (by kernel_rfl) ?_
  refine qv_v (q_move rfl) ?_
  refine qv_v (q_nilck rfl) ?_
  first | (refine qv_v (q_load 0 Try.underlying56 rfl rfl rfl (u32s_at (by first | omega | with_reducible assumption | (simp only [zb, zu, zw, zi, za]; omega) | (simp only [zs, zr, zm, za, zb, zu, zw, zi, zt, zd, zc, zn, *] <;> first | done | omega) | rfl))) ?_) | (refine qv_v (q_load 0 Try.underlying56 rfl rfl rfl rfl) ?_)
  refine qv_v (q_move rfl) ?_
  refine qv_v (q_nilck rfl) ?_
  first | (refine qv_v (q_load 0 Try.underlying56 rfl rfl rfl (u32s_at (by first | omega | with_reducible assumption | (simp only [zb, zu, zw, zi, za]; omega) | (simp only [zs, zr, zm, za, zb, zu, zw, zi, zt, zd, zc, zn, *] <;> first | done | omega) | rfl))) ?_) | (refine qv_v (q_load 0 Try.underlying56 rfl rfl rfl rfl) ?_)
  refine qv_v (q_move rfl) ?_
  refine qv_v (q_add_u32 rfl rfl) ?_
  refine qv_end ?_
  refine VL.keep (Sub.cons (s := 0) rfl (Sub.cons (s := 1) rfl (Sub.cons (s := 2) rfl (Sub.cons (s := 3) rfl (Sub.cons (s := 4) rfl (Sub.cons (s := 5) rfl (Sub.cons (s := 12) rfl (Sub.cons (s := 14) rfl (Sub.cons (s := 19) rfl (Sub.nil _)))))))))) ?_
  refine vl_v (q_add_u32 rfl rfl) rfl ?_
  refine vl_v (q_nilck rfl) rfl ?_
  first | (refine l_stU32 0 rfl rfl rfl sz56 (by first | omega | with_reducible assumption | (simp only [zb, zu, zw, zi, za]; omega) | (simp only [zs, zr, zm, za, zb, zu, zw, zi, zt, zd, zc, zn, *] <;> first | done | omega) | rfl) ?_) | (refine l_store1 0 rfl rfl rfl sz56 rfl (by first | decide | simp) ?_)
  simp only [List.set_cons_zero, List.set_cons_succ]
  refine vl_nil ?_
  refine (qn_n (th_n ?_))
  refine VC_seq ?_
  refine VC_drawV 9 [[], [], [1], [2], [], [4], [5], [3, 6], [7], [0, 1, 2, 3, 4, 5, 6, 7, 8], [9, 8, 0, 1, 2, 3, 4, 5, 6, 7]] [[], [], [1], [1, 2], [], [4], [4, 5], [1, 2, 3, 4, 5, 6], [1, 2, 3, 4, 5, 6, 7], [0, 1, 2, 3, 4, 5, 6, 7, 8], [0, 1, 2, 3, 4, 5, 6, 7, 8, 9]] rfl (by kernel_rfl) ?_
  refine qv_v (q_move rfl) ?_
  refine qv_v (q_move rfl) ?_
  refine qv_v (q_nilck rfl) ?_
  first | (refine qv_v (q_load 0 Try.underlying56 rfl rfl rfl (u32s_at (by first | omega | with_reducible assumption | (simp only [zb, zu, zw, zi, za]; omega) | (simp only [zs, zr, zm, za, zb, zu, zw, zi, zt, zd, zc, zn, *] <;> first | done | omega) | rfl))) ?_) | (refine qv_v (q_load 0 Try.underlying56 rfl rfl rfl rfl) ?_)
  refine qv_v (q_move rfl) ?_
  refine qv_v (q_nilck rfl) ?_
  first | (refine qv_v (q_load 0 Try.underlying56 rfl rfl rfl (u32s_at (by first | omega | with_reducible assumption | (simp only [zb, zu, zw, zi, za]; omega) | (simp only [zs, zr, zm, za, zb, zu, zw, zi, zt, zd, zc, zn, *] <;> first | done | omega) | rfl))) ?_) | (refine qv_v (q_load 0 Try.underlying56 rfl rfl rfl rfl) ?_)
  refine qv_v (q_xor_u32 rfl rfl) ?_
  refine qv_v (q_callV Try.func64 rfl rfl rfl (fun w1 H1 => rot_calls _ (-16) _ 16 rfl (by decide) (by decide) w1)) ?_
  refine qv_end ?_
  refine VL.keep (Sub.cons (s := 0) rfl (Sub.cons (s := 1) rfl (Sub.cons (s := 2) rfl (Sub.cons (s := 3) rfl (Sub.cons (s := 4) rfl (Sub.cons (s := 5) rfl (Sub.cons (s := 22) rfl (Sub.cons (s := 30) rfl (Sub.nil _))))))))) ?_
  refine vl_v (q_nilck rfl) rfl ?_
  first | (refine l_stU32 0 rfl rfl rfl sz56 (by first | omega | with_reducible assumption | (simp only [zb, zu, zw, zi, za]; omega) | (simp only [zs, zr, zm, za, zb, zu, zw, zi, zt, zd, zc, zn, *] <;> first | done | omega) | rfl) ?_) | (refine l_store1 0 rfl rfl rfl sz56 rfl (by first | decide | simp) ?_)
  simp only [List.set_cons_zero, List.set_cons_succ]
  refine vl_nil ?_
  refine (qn_n (th_n ?_))
  refine VC_seq ?_
  refine VC_drawV 6 [[], [0], [1], [], [3], [4], [2, 5], [0, 1, 2, 3, 4, 5, 6], [7, 6, 0, 1, 2, 3, 4, 5]] [[], [0], [0, 1], [], [3], [3, 4], [0, 1, 2, 3, 4, 5], [0, 1, 2, 3, 4, 5, 6], [0, 1, 2, 3, 4, 5, 6, 7]] rfl (by kernel_rfl) ?_
  refine qv_v (q_move rfl) ?_
  refine qv_v (q_nilck rfl) ?_
  first | (refine qv_v (q_load 0 Try.underlying56 rfl rfl rfl (u32s_at (by first | omega | with_reducible assumption | (simp only [zb, zu, zw, zi, za]; omega) | (simp only [zs, zr, zm, za, zb, zu, zw, zi, zt, zd, zc, zn, *] <;> first | done | omega) | rfl))) ?_) | (refine qv_v (q_load 0 Try.underlying56 rfl rfl rfl rfl) ?_)
  refine qv_v (q_move rfl) ?_
  refine qv_v (q_nilck rfl) ?_
  first | (refine qv_v (q_load 0 Try.underlying56 rfl rfl rfl (u32s_at (by first | omega | with_reducible assumption | (simp only [zb, zu, zw, zi, za]; omega) | (simp only [zs, zr, zm, za, zb, zu, zw, zi, zt, zd, zc, zn, *] <;> first | done | omega) | rfl))) ?_) | (refine qv_v (q_load 0 Try.underlying56 rfl rfl rfl rfl) ?_)
  refine qv_end ?_
  refine VL.keep (Sub.cons (s := 0) rfl (Sub.cons (s := 1) rfl (Sub.cons (s := 2) rfl (Sub.cons (s := 3) rfl (Sub.cons (s := 4) rfl (Sub.cons (s := 5) rfl (Sub.cons (s := 32) rfl (Sub.cons (s := 34) rfl (Sub.cons (s := 37) rfl (Sub.nil _)))))))))) ?_
  refine vl_v (q_add_u32 rfl rfl) rfl ?_
  refine vl_v (q_nilck rfl) rfl ?_
  first | (refine l_stU32 0 rfl rfl rfl sz56 (by first | omega | with_reducible assumption | (simp only [zb, zu, zw, zi, za]; omega) | (simp only [zs, zr, zm, za, zb, zu, zw, zi, zt, zd, zc, zn, *] <;> first | done | omega) | rfl) ?_) | (refine l_store1 0 rfl rfl rfl sz56 rfl (by first | decide | simp) ?_)
  simp only [List.set_cons_zero, List.set_cons_succ]
  refine vl_nil ?_
  refine (qn_n (th_n ?_))
  refine VC_seq ?_
  refine VC_drawV 9 [[], [], [1], [2], [], [4], [5], [3, 6], [7], [0, 1, 2, 3, 4, 5, 6, 7, 8], [9, 8, 0, 1, 2, 3, 4, 5, 6, 7]] [[], [], [1], [1, 2], [], [4], [4, 5], [1, 2, 3, 4, 5, 6], [1, 2, 3, 4, 5, 6, 7], [0, 1, 2, 3, 4, 5, 6, 7, 8], [0, 1, 2, 3, 4, 5, 6, 7, 8, 9]] rfl (by kernel_rfl) ?_
  refine qv_v (q_move rfl) ?_
  refine qv_v (q_move rfl) ?_
  refine qv_v (q_nilck rfl) ?_
  first | (refine qv_v (q_load 0 Try.underlying56 rfl rfl rfl (u32s_at (by first | omega | with_reducible assumption | (simp only [zb, zu, zw, zi, za]; omega) | (simp only [zs, zr, zm, za, zb, zu, zw, zi, zt, zd, zc, zn, *] <;> first | done | omega) | rfl))) ?_) | (refine qv_v (q_load 0 Try.underlying56 rfl rfl rfl rfl) ?_)
  refine qv_v (q_move rfl) ?_
  refine qv_v (q_nilck rfl) ?_
  first | (refine qv_v (q_load 0 Try.underlying56 rfl rfl rfl (u32s_at (by first | omega | with_reducible assumption | (simp only [zb, zu, zw, zi, za]; omega) | (simp only [zs, zr, zm, za, zb, zu, zw, zi, zt, zd, zc, zn, *] <;> first | done | omega) | rfl))) ?_) | (refine qv_v (q_load 0 Try.underlying56 rfl rfl rfl rfl) ?_)
  refine qv_v (q_xor_u32 rfl rfl) ?_
  refine qv_v (q_callV Try.func64 rfl rfl rfl (fun w1 H1 => rot_calls _ (-12) _ 20 rfl (by decide) (by decide) w1)) ?_
  refine qv_end ?_
  refine VL.keep (Sub.cons (s := 0) rfl (Sub.cons (s := 1) rfl (Sub.cons (s := 2) rfl (Sub.cons (s := 3) rfl (Sub.cons (s := 4) rfl (Sub.cons (s := 5) rfl (Sub.cons (s := 40) rfl (Sub.cons (s := 48) rfl (Sub.nil _))))))))) ?_
  refine vl_v (q_nilck rfl) rfl ?_
  first | (refine l_stU32 0 rfl rfl rfl sz56 (by first | omega | with_reducible assumption | (simp only [zb, zu, zw, zi, za]; omega) | (simp only [zs, zr, zm, za, zb, zu, zw, zi, zt, zd, zc, zn, *] <;> first | done | omega) | rfl) ?_) | (refine l_store1 0 rfl rfl rfl sz56 rfl (by first | decide | simp) ?_)
  simp only [List.set_cons_zero, List.set_cons_succ]
  refine vl_nil ?_
  refine (qn_n (th_n ?_))
  refine VC_seq ?_
  refine VC_drawV 8 [[], [0], [1], [], [3], [4], [], [5, 6], [2, 7], [0, 1, 2, 3, 4, 5, 6, 7, 8], [9, 8, 0, 1, 2, 3, 4, 5, 6, 7]] [[], [0], [0, 1], [], [3], [3, 4], [], [3, 4, 5, 6], [0, 1, 2, 3, 4, 5, 6, 7], [0, 1, 2, 3, 4, 5, 6, 7, 8], [0, 1, 2, 3, 4, 5, 6, 7, 8, 9]] rfl (by kernel_rfl) ?_
  refine qv_v (q_move rfl) ?_
  refine qv_v (q_nilck rfl) ?_
  first | (refine qv_v (q_load 0 Try.underlying56 rfl rfl rfl (u32s_at (by first | omega | with_reducible assumption | (simp only [zb, zu, zw, zi, za]; omega) | (simp only [zs, zr, zm, za, zb, zu, zw, zi, zt, zd, zc, zn, *] <;> first | done | omega) | rfl))) ?_) | (refine qv_v (q_load 0 Try.underlying56 rfl rfl rfl rfl) ?_)
  refine qv_v (q_move rfl) ?_
  refine qv_v (q_nilck rfl) ?_
  first | (refine qv_v (q_load 0 Try.underlying56 rfl rfl rfl (u32s_at (by first | omega | with_reducible assumption | (simp only [zb, zu, zw, zi, za]; omega) | (simp only [zs, zr, zm, za, zb, zu, zw, zi, zt, zd, zc, zn, *] <;> first | done | omega) | rfl))) ?_) | (refine qv_v (q_load 0 Try.underlying56 rfl rfl rfl rfl) ?_)
  refine qv_v (q_move rfl) ?_
  refine qv_v (q_add_u32 rfl rfl) ?_
  refine qv_end ?_
  refine VL.keep (Sub.cons (s := 0) rfl (Sub.cons (s := 1) rfl (Sub.cons (s := 2) rfl (Sub.cons (s := 3) rfl (Sub.cons (s := 4) rfl (Sub.cons (s := 5) rfl (Sub.cons (s := 50) rfl (Sub.cons (s := 52) rfl (Sub.cons (s := 57) rfl (Sub.nil _)))))))))) ?_
  refine vl_v (q_add_u32 rfl rfl) rfl ?_
  refine vl_v (q_nilck rfl) rfl ?_
  first | (refine l_stU32 0 rfl rfl rfl sz56 (by first | omega | with_reducible assumption | (simp only [zb, zu, zw, zi, za]; omega) | (simp only [zs, zr, zm, za, zb, zu, zw, zi, zt, zd, zc, zn, *] <;> first | done | omega) | rfl) ?_) | (refine l_store1 0 rfl rfl rfl sz56 rfl (by first | decide | simp) ?_)
  simp only [List.set_cons_zero, List.set_cons_succ]
  refine vl_nil ?_
  refine (qn_n (th_n ?_))
  refine VC_seq ?_
  refine VC_drawV 9 [[], [], [1], [2], [], [4], [5], [3, 6], [7], [0, 1, 2, 3, 4, 5, 6, 7, 8], [9, 8, 0, 1, 2, 3, 4, 5, 6, 7]] [[], [], [1], [1, 2], [], [4], [4, 5], [1, 2, 3, 4, 5, 6], [1, 2, 3, 4, 5, 6, 7], [0, 1, 2, 3, 4, 5, 6, 7, 8], [0, 1, 2, 3, 4, 5, 6, 7, 8, 9]] rfl (by kernel_rfl) ?_
  refine qv_v (q_move rfl) ?_
  refine qv_v (q_move rfl) ?_
  refine qv_v (q_nilck rfl) ?_
  first | (refine qv_v (q_load 0 Try.underlying56 rfl rfl rfl (u32s_at (by first | omega | with_reducible assumption | (simp only [zb, zu, zw, zi, za]; omega) | (simp only [zs, zr, zm, za, zb, zu, zw, zi, zt, zd, zc, zn, *] <;> first | done | omega) | rfl))) ?_) | (refine qv_v (q_load 0 Try.underlying56 rfl rfl rfl rfl) ?_)
  refine qv_v (q_move rfl) ?_
  refine qv_v (q_nilck rfl) ?_
  first | (refine qv_v (q_load 0 Try.underlying56 rfl rfl rfl (u32s_at (by first | omega | with_reducible assumption | (simp only [zb, zu, zw, zi, za]; omega) | (simp only [zs, zr, zm, za, zb, zu, zw, zi, zt, zd, zc, zn, *] <;> first | done | omega) | rfl))) ?_) | (refine qv_v (q_load 0 Try.underlying56 rfl rfl rfl rfl) ?_)
  refine qv_v (q_xor_u32 rfl rfl) ?_
  refine qv_v (q_callV Try.func64 rfl rfl rfl (fun w1 H1 => rot_calls _ (-8) _ 24 rfl (by decide) (by decide) w1)) ?_
  refine qv_end ?_
  refine VL.keep (Sub.cons (s := 0) rfl (Sub.cons (s := 1) rfl (Sub.cons (s := 2) rfl (Sub.cons (s := 3) rfl (Sub.cons (s := 4) rfl (Sub.cons (s := 5) rfl (Sub.cons (s := 60) rfl (Sub.cons (s := 68) rfl (Sub.nil _))))))))) ?_
  refine vl_v (q_nilck rfl) rfl ?_
  first | (refine l_stU32 0 rfl rfl rfl sz56 (by first | omega | with_reducible assumption | (simp only [zb, zu, zw, zi, za]; omega) | (simp only [zs, zr, zm, za, zb, zu, zw, zi, zt, zd, zc, zn, *] <;> first | done | omega) | rfl) ?_) | (refine l_store1 0 rfl rfl rfl sz56 rfl (by first | decide | simp) ?_)
  simp only [List.set_cons_zero, List.set_cons_succ]
  refine vl_nil ?_
  refine (qn_n (th_n ?_))
  refine VC_seq ?_
  refine VC_drawV 6 [[], [0], [1], [], [3], [4], [2, 5], [0, 1, 2, 3, 4, 5, 6], [7, 6, 0, 1, 2, 3, 4, 5]] [[], [0], [0, 1], [], [3], [3, 4], [0, 1, 2, 3, 4, 5], [0, 1, 2, 3, 4, 5, 6], [0, 1, 2, 3, 4, 5, 6, 7]] rfl (by kernel_rfl) ?_
  refine qv_v (q_move rfl) ?_
  refine qv_v (q_nilck rfl) ?_
  first | (refine qv_v (q_load 0 Try.underlying56 rfl rfl rfl (u32s_at (by first | omega | with_reducible assumption | (simp only [zb, zu, zw, zi, za]; omega) | (simp only [zs, zr, zm, za, zb, zu, zw, zi, zt, zd, zc, zn, *] <;> first | done | omega) | rfl))) ?_) | (refine qv_v (q_load 0 Try.underlying56 rfl rfl rfl rfl) ?_)
  refine qv_v (q_move rfl) ?_
  refine qv_v (q_nilck rfl) ?_
  first | (refine qv_v (q_load 0 Try.underlying56 rfl rfl rfl (u32s_at (by first | omega | with_reducible assumption | (simp only [zb, zu, zw, zi, za]; omega) | (simp only [zs, zr, zm, za, zb, zu, zw, zi, zt, zd, zc, zn, *] <;> first | done | omega) | rfl))) ?_) | (refine qv_v (q_load 0 Try.underlying56 rfl rfl rfl rfl) ?_)
  refine qv_end ?_
  refine VL.keep (Sub.cons (s := 0) rfl (Sub.cons (s := 1) rfl (Sub.cons (s := 2) rfl (Sub.cons (s := 3) rfl (Sub.cons (s := 4) rfl (Sub.cons (s := 5) rfl (Sub.cons (s := 70) rfl (Sub.cons (s := 72) rfl (Sub.cons (s := 75) rfl (Sub.nil _)))))))))) ?_
  refine vl_v (q_add_u32 rfl rfl) rfl ?_
  refine vl_v (q_nilck rfl) rfl ?_
  first | (refine l_stU32 0 rfl rfl rfl sz56 (by first | omega | with_reducible assumption | (simp only [zb, zu, zw, zi, za]; omega) | (simp only [zs, zr, zm, za, zb, zu, zw, zi, zt, zd, zc, zn, *] <;> first | done | omega) | rfl) ?_) | (refine l_store1 0 rfl rfl rfl sz56 rfl (by first | decide | simp) ?_)
  simp only [List.set_cons_zero, List.set_cons_succ]
  refine vl_nil ?_
  refine (qn_n (th_n ?_))
  refine VC_drawV 9 [[], [], [1], [2], [], [4], [5], [3, 6], [7], [0, 1, 2, 3, 4, 5, 6, 7, 8], [9, 8, 0, 1, 2, 3, 4, 5, 6, 7]] [[], [], [1], [1, 2], [], [4], [4, 5], [1, 2, 3, 4, 5, 6], [1, 2, 3, 4, 5, 6, 7], [0, 1, 2, 3, 4, 5, 6, 7, 8], [0, 1, 2, 3, 4, 5, 6, 7, 8, 9]] rfl (by kernel_rfl) ?_
  refine qv_v (q_move rfl) ?_
  refine qv_v (q_move rfl) ?_
  refine qv_v (q_nilck rfl) ?_
  first | (refine qv_v (q_load 0 Try.underlying56 rfl rfl rfl (u32s_at (by first | omega | with_reducible assumption | (simp only [zb, zu, zw, zi, za]; omega) | (simp only [zs, zr, zm, za, zb, zu, zw, zi, zt, zd, zc, zn, *] <;> first | done | omega) | rfl))) ?_) | (refine qv_v (q_load 0 Try.underlying56 rfl rfl rfl rfl) ?_)
  refine qv_v (q_move rfl) ?_
  refine qv_v (q_nilck rfl) ?_
  first | (refine qv_v (q_load 0 Try.underlying56 rfl rfl rfl (u32s_at (by first | omega | with_reducible assumption | (simp only [zb, zu, zw, zi, za]; omega) | (simp only [zs, zr, zm, za, zb, zu, zw, zi, zt, zd, zc, zn, *] <;> first | done | omega) | rfl))) ?_) | (refine qv_v (q_load 0 Try.underlying56 rfl rfl rfl rfl) ?_)
  refine qv_v (q_xor_u32 rfl rfl) ?_
  refine qv_v (q_callV Try.func64 rfl rfl rfl (fun w1 H1 => rot_calls _ (-7) _ 25 rfl (by decide) (by decide) w1)) ?_
  refine qv_end ?_
  refine VL.keep (Sub.cons (s := 0) rfl (Sub.cons (s := 1) rfl (Sub.cons (s := 2) rfl (Sub.cons (s := 3) rfl (Sub.cons (s := 4) rfl (Sub.cons (s := 5) rfl (Sub.cons (s := 78) rfl (Sub.cons (s := 86) rfl (Sub.nil _))))))))) ?_
  refine vl_v (q_nilck rfl) rfl ?_
  first | (refine l_stU32 0 rfl rfl rfl sz56 (by first | omega | with_reducible assumption | (simp only [zb, zu, zw, zi, za]; omega) | (simp only [zs, zr, zm, za, zb, zu, zw, zi, zt, zd, zc, zn, *] <;> first | done | omega) | rfl) ?_) | (refine l_store1 0 rfl rfl rfl sz56 rfl (by first | decide | simp) ?_)
  simp only [List.set_cons_zero, List.set_cons_succ]
  refine vl_nil ?_
  refine (qn_n ?_)
  refine ⟨_, res0 rfl, ?_⟩
  exact ⟨rfl, rfl⟩

theorem first_calls (w : World) :
    Calls Try.prog 41 #[] w fun e w' => e = .returned (.agg (u32s iv).toArray) ∧ Kept [] w w' := by
  refine enter (n := 2) (R := fun e L => e = .returned (.agg (u32s iv).toArray)) [] Try.func41 rfl rfl rfl (St.refl w) ?_ (fun e w' L' h H => ⟨h, H.kept⟩)
  refine VC_seq ?_
  refine VC_region ?_
  refine l_allocA zr58 rfl ?_
  intro b0
  refine vl_nil ?_
  refine (th_n ?_)
  refine VC_seq ?_
  refine VC_region ?_
  refine vl_v (q_build (c' := u32s iv) rfl (by kernel_rfl)) rfl ?_
  refine l_storeA 0 rfl rfl rfl sz58 (by first | omega | with_reducible assumption | (simp only [zb, zu, zw, zi, za]; omega) | (simp only [zs, zr, zm, za, zb, zu, zw, zi, zt, zd, zc, zn, *] <;> first | done | omega) | rfl) (by first | (with_reducible first | exact bys_one _ | exact u32s_one _ | exact u64s_one _ | exact i64s_one _ | exact n64s_one _ | assumption) | exact bys_one _ | exact u32s_one _ | exact u64s_one _ | exact i64s_one _ | exact one_all rfl | (refine app_one ?_ ?_ <;> first | exact bys_one _ | (simp; done))) (by first | omega | with_reducible assumption | (simp only [zb, zu, zw, zi, za]; omega) | (simp only [zs, zr, zm, za, zb, zu, zw, zi, zt, zd, zc, zn, *] <;> first | done | omega) | rfl) ?_
  simp only [List.set_cons_zero, List.set_cons_succ]
  refine vl_nil ?_
  refine (th_n ?_)
  refine VC_ret ?_
  refine ⟨_, resC1 0 rfl Try.underlying58 rfl rfl rfl sz58 (by first | omega | with_reducible assumption | (simp only [zb, zu, zw, zi, za]; omega) | (simp only [zs, zr, zm, za, zb, zu, zw, zi, zt, zd, zc, zn, *] <;> first | done | omega) | rfl), ?_⟩
  exact rfl
theorem rows_calls (w : World) :
    Calls Try.prog 53 #[] w fun e w' => ∃ b, e = .returned (vP b 0) ∧ St [] w [.blk b 96 (bys sRows.flatten)] w' := by
  refine enter (n := 13) (R := fun e L => ∃ b, e = .returned (vP b 0) ∧ L = [.blk b 96 (bys sRows.flatten)]) [] Try.func53 rfl rfl rfl (St.refl w) ?_ (fun e w' L' h H => by obtain ⟨b, h1, rfl⟩ := h; exact ⟨b, h1, H⟩)
  refine VC_seq ?_
  refine VC_region ?_
  refine vl_v (q_assign rfl) rfl ?_
  refine vl_nil ?_
  refine (th_n ?_)
  refine VC_seq ?_
  refine VC_region ?_
  refine vl_v (q_build (c' := bys (sRow 0)) rfl (by kernel_rfl)) rfl ?_
  refine vl_v (q_build (c' := bys (sRow 1)) rfl (by kernel_rfl)) rfl ?_
  refine vl_v (q_build (c' := bys (sRow 2)) rfl (by kernel_rfl)) rfl ?_
  refine vl_v (q_build (c' := bys (sRow 3)) rfl (by kernel_rfl)) rfl ?_
  refine vl_v (q_build (c' := bys (sRow 4)) rfl (by kernel_rfl)) rfl ?_
  refine vl_v (q_build (c' := bys (sRow 5)) rfl (by kernel_rfl)) rfl ?_
  refine vl_v (q_build (c' := bys (sRow 6)) rfl (by kernel_rfl)) rfl ?_
  refine vl_v (q_build (c' := bys (sRow 7)) rfl (by kernel_rfl)) rfl ?_
  refine vl_v (q_build (c' := bys (sRow 8)) rfl (by kernel_rfl)) rfl ?_
  refine vl_v (q_build (c' := bys (sRow 9)) rfl (by kernel_rfl)) rfl ?_
  refine vl_v (q_build (c' := bys sRows.flatten) rfl (by kernel_rfl)) rfl ?_
  refine l_boxA rfl rfl ?_
  intro b12
  refine vl_v (q_assign rfl) rfl ?_
  refine vl_nil ?_
  refine (th_n ?_)
  refine VC_ret ?_
  refine ⟨_, res1 rfl rfl, ?_⟩
  exact ⟨_, rfl, rfl⟩
end Go.Proofs.Ytkadnmoephkklaa
