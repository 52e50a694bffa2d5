/- What the functions of package chacha do. No condition. -/
import Derived.Test.YtkadnmoephkklaaY
import Derived.Test.YtkadnmoephkklaaS04
import Derived.Test.YtkadnmoephkklaaC03
import Derived.Test.YtkadnmoephkklaaK01
namespace Go.Proofs.Ytkadnmoephkklaa
open Go.RowKit Go.PBYtkadnmoephkklaa
set_option linter.unusedVariables false
set_option linter.unusedSimpArgs false
set_option maxRecDepth 10000

theorem word_calls (l : List UInt8) (A : Option Addr) (m c : Nat) (hm : m = l.length) (w : World) (hA : SlAt w A (bys l)) (h4 : 4 ≤ l.length) (hc : l.length ≤ c) (hl : l.length ≤ 100000) :
    Calls Try.prog 78 #[.slice A m c] w fun e w' => e = .returned (vU32 (word32 l)) ∧ Kept [] w w' := by
  subst hm
  refine enter (n := 7) (R := fun e L => e = .returned (vU32 (word32 l))) [.slice A l.length c] Try.func78 rfl rfl rfl (St.refl w) ?_ (fun e w' L' h H => ⟨h, H.kept⟩)
  refine VC_seq ?_
  refine VC_region ?_
  refine vl_v (q_assign rfl) rfl ?_
  refine vl_nil ?_
  refine (th_n ?_)
  refine VC_seq ?_
  refine VC_region ?_
  refine vl_v (q_move rfl) rfl ?_
  refine vl_v (q_slcS0 (h := 4) (m := 4) Try.underlying24 sz5 rfl ⟨_, rfl⟩ ⟨_, rfl⟩ (.inr rfl) (by omega) (by omega)) rfl ?_
  refine vl_v (q_callV Try.func52 rfl rfl rfl (fun w1 H1 => Calls.mono (by have h := ofLow_calls (l.take 4) A 4 w1 (by rw [← bys_take]; exact (Reads.old hA w1 H1).take 4) (by simp; omega) (by simp; omega); rw [show (l.take 4).length = 4 by simp; omega] at h; exact h) (fun e w' h => h))) rfl ?_
  refine vl_v (q_conv_nu32 Try.underlying61 Try.underlying56 rfl) rfl ?_
  refine vl_v (q_assign rfl) rfl ?_
  refine vl_nil ?_
  refine (th_n ?_)
  refine VC_ret ?_
  refine ⟨_, res1 rfl rfl, ?_⟩
  exact congrArg Ending.returned (by rw [List.take_take]; rfl)

theorem part52 (k : Nat) (hk : k < 2) : (([Value.int .i64 16, Value.int .i64 12, Value.int .i64 8, Value.int .i64 7] : List Value).drop (k * 2)).take 2 = [vN (ra k), vN (rb k)] := by
  obtain rfl | rfl : k = 0 ∨ k = 1 := by omega
  · rfl
  · rfl
theorem rot_ra (x : UInt32) (k : Nat) (hk : k < 2) (w : World) : Calls Try.prog 64 #[vU32 x, vN (ra k)] w fun e w' => e = .returned (vU32 (rotl x (ra k))) ∧ Kept [] w w' := by
  obtain rfl | rfl : k = 0 ∨ k = 1 := by omega
  · exact rot_calls x 16 16 16 rfl (by decide) (by decide) w
  · exact rot_calls x 8 8 8 rfl (by decide) (by decide) w
theorem rot_rb (x : UInt32) (k : Nat) (hk : k < 2) (w : World) : Calls Try.prog 64 #[vU32 x, vN (rb k)] w fun e w' => e = .returned (vU32 (rotl x (rb k))) ∧ Kept [] w w' := by
  obtain rfl | rfl : k = 0 ∨ k = 1 := by omega
  · exact rot_calls x 12 12 12 rfl (by decide) (by decide) w
  · exact rot_calls x 7 7 7 rfl (by decide) (by decide) w
set_option maxHeartbeats 1000000 in
theorem quarter_calls {S : List Nat} {w0 : World} {R : List Res} (l : List UInt32) (i1 i2 i3 i4 : Nat) (bl : Nat) (hl : l.length = 16) (h1 : i1 < 16) (h2 : i2 < 16) (h3 : i3 < 16) (h4 : i4 < 16) (w : World) (H : St S w0 (.blk bl 105 (u32s l) :: R) w) :
    Calls Try.prog 74 #[vP bl 0, vN i1, vN i2, vN i3, vN i4] w fun e w' => e = .returned (.tuple #[]) ∧ St S w0 (.blk bl 105 (u32s (quarter l i1 i2 i3 i4)) :: R) w' := by
  refine enter (n := 81) (R := fun e L => e = .returned (.tuple #[]) ∧ L = .blk bl 105 (u32s (quarter l i1 i2 i3 i4)) :: R) [vP bl 0, vN i1, vN i2, vN i3, vN i4] Try.func74 rfl rfl rfl H ?_ (fun e w' L' h H => ⟨h.1, h.2 ▸ H⟩)
  refine VC_seq ?_
  refine VC_region ?_
  refine vl_v (q_build (c' := [.int .i64 16, .int .i64 12]) rfl (by kernel_rfl)) rfl ?_
  refine vl_v (q_build (c' := [.int .i64 8, .int .i64 7]) rfl (by kernel_rfl)) rfl ?_
  refine vl_v (q_build (c' := [.int .i64 16, .int .i64 12, .int .i64 8, .int .i64 7]) rfl (by kernel_rfl)) rfl ?_
  refine vl_v (q_move rfl) rfl ?_
  refine vl_nil ?_
  refine (th_n ?_)
  refine VC_block ?_
  refine VC_loop (ι := Nat) (fun k => k ≤ 2) (fun k => [(0, vP bl 0), (1, vN i1), (2, vN i2), (3, vN i3), (4, vN i4), (14, .agg #[.int .i64 16, .int .i64 12, .int .i64 8, .int .i64 7]), (15, vN k)]) (fun k => .blk bl 105 (u32s (qit l i1 i2 i3 i4 k)) :: R) (fun k => 2 - k) 0 (by omega) (Sub.cons (s := 0) rfl (Sub.cons (s := 1) rfl (Sub.cons (s := 2) rfl (Sub.cons (s := 3) rfl (Sub.cons (s := 4) rfl (Sub.cons (s := 14) rfl (Sub.cons (s := 15) rfl (Sub.nil _)))))))) (fun w H => H) ?_
  rintro k hp
  have hq : (qit l i1 i2 i3 i4 k).length = 16 := by rw [qit_length, hl]
  refine VC_seq ?_
  refine VC_region ?_
  first | (refine vl_v (q_lss_n (q := 2) Try.underlying3 rfl rfl) rfl ?_) | (refine vl_v (q_lss_k Try.underlying3 rfl rfl) rfl ?_)
  refine vl_nil ?_
  refine (th_n ?_)
  refine VC_seq ?_
  refine VC_cond rfl (fun ht16 => ?_) (fun ht16 => ?_)
  · skip
    have ht16 := of_decide_eq_true ht16
    refine VC_skip ?_
    refine (th_n ?_)
    refine VC_seq ?_
    refine VC_block ?_
    refine VC_seq ?_
    refine VC_region ?_
    refine vl_v (q_idxVA Try.underlying111 Try.underlying36 rfl sz36 rfl rfl (by omega) (by exact part52 k ht16)) rfl ?_
    refine l_allocA zr36 rfl ?_
    intro b11
    refine l_storeA 0 rfl rfl rfl sz36 (by first | omega | with_reducible assumption | (simp only [zb, zu, zw, zi, za]; omega) | (simp only [zs, zr, zm, za, zb, zu, zw, zi, zt, zd, zc, zn, *] <;> first | done | omega) | rfl) (by first | (with_reducible first | exact bys_one _ | exact u32s_one _ | exact u64s_one _ | exact i64s_one _ | exact n64s_one _ | assumption) | exact bys_one _ | exact u32s_one _ | exact u64s_one _ | exact i64s_one _ | exact one_all rfl | (refine app_one ?_ ?_ <;> first | exact bys_one _ | (simp; done))) (by first | omega | with_reducible assumption | (simp only [zb, zu, zw, zi, za]; omega) | (simp only [zs, zr, zm, za, zb, zu, zw, zi, zt, zd, zc, zn, *] <;> first | done | omega) | rfl) ?_
    simp only [List.set_cons_zero, List.set_cons_succ]
    refine vl_nil ?_
    refine (th_n ?_)
    refine VC_seq ?_
    refine VC_drawV 12 [[], [], [0], [2, 1], [3], [], [], [5], [7, 6], [8], [4, 9], [0], [11, 1, 0, 2, 3, 4, 5, 6, 7, 8, 9, 10], [12, 10, 0, 1, 2, 3, 4, 5, 6, 7, 8, 9]] [[], [], [0], [0, 1, 2], [0, 1, 2, 3], [], [], [5], [5, 6, 7], [5, 6, 7, 8], [0, 1, 2, 3, 4, 5, 6, 7, 8, 9], [0], [0, 1, 2, 3, 4, 5, 6, 7, 8, 9, 10, 11], [0, 1, 2, 3, 4, 5, 6, 7, 8, 9, 10, 11, 12]] rfl (by kernel_rfl) ?_
    refine qv_v (q_move rfl) ?_
    refine qv_v (q_move rfl) ?_
    refine qv_v (q_nilck rfl) ?_
    first | (refine qv_v (q_idxA Try.underlying105 sz56 rfl rfl (by omega) (r := _) (by rw [Nat.mul_one, Nat.zero_add])) ?_) | (refine qv_v (q_idxA Try.underlying105 sz56 rfl rfl (by omega) rfl) ?_)
    first | (refine qv_v (q_load 1 Try.underlying56 rfl rfl rfl (u32s_at (by first | omega | with_reducible assumption | (simp only [zb, zu, zw, zi, za]; omega) | (simp only [zs, zr, zm, za, zb, zu, zw, zi, zt, zd, zc, zn, *] <;> first | done | omega) | rfl))) ?_) | (refine qv_v (q_load 1 Try.underlying56 rfl rfl rfl rfl) ?_)
    refine qv_v (q_move rfl) ?_
    refine qv_v (q_move rfl) ?_
    refine qv_v (q_nilck rfl) ?_
    first | (refine qv_v (q_idxA Try.underlying105 sz56 rfl rfl (by omega) (r := _) (by rw [Nat.mul_one, Nat.zero_add])) ?_) | (refine qv_v (q_idxA Try.underlying105 sz56 rfl rfl (by omega) rfl) ?_)
    first | (refine qv_v (q_load 1 Try.underlying56 rfl rfl rfl (u32s_at (by first | omega | with_reducible assumption | (simp only [zb, zu, zw, zi, za]; omega) | (simp only [zs, zr, zm, za, zb, zu, zw, zi, zt, zd, zc, zn, *] <;> first | done | omega) | rfl))) ?_) | (refine qv_v (q_load 1 Try.underlying56 rfl rfl rfl rfl) ?_)
    refine qv_v (q_add_u32 rfl rfl) ?_
    refine qv_v (q_nilck rfl) ?_
    refine qv_end ?_
    refine VL.keep (Sub.cons (s := 0) rfl (Sub.cons (s := 1) rfl (Sub.cons (s := 2) rfl (Sub.cons (s := 3) rfl (Sub.cons (s := 4) rfl (Sub.cons (s := 14) rfl (Sub.cons (s := 15) rfl (Sub.cons (s := 16) rfl (Sub.cons (s := 11) rfl (Sub.cons (s := 19) rfl (Sub.cons (s := 28) rfl (Sub.cons (s := 29) rfl (Sub.nil _))))))))))))) ?_
    first | (refine vl_v (q_idxA Try.underlying105 sz56 rfl rfl (by omega) (r := _) (by rw [Nat.mul_one, Nat.zero_add])) rfl ?_) | (refine vl_v (q_idxA Try.underlying105 sz56 rfl rfl (by omega) rfl) rfl ?_)
    first | (refine l_stU32 1 rfl rfl rfl sz56 (by first | omega | with_reducible assumption | (simp only [zb, zu, zw, zi, za]; omega) | (simp only [zs, zr, zm, za, zb, zu, zw, zi, zt, zd, zc, zn, *] <;> first | done | omega) | rfl) ?_) | (refine l_store1 1 rfl rfl rfl sz56 rfl (by first | decide | simp) ?_)
    simp only [List.set_cons_zero, List.set_cons_succ]
    refine vl_nil ?_
    refine (qn_n (th_n ?_))
    refine VC_seq ?_
    refine VC_drawV 17 [[], [], [], [], [2], [4, 3], [5], [], [], [7], [9, 8], [10], [6, 11], [], [13], [12, 14], [0], [16, 1, 0, 2, 3, 4, 5, 6, 7, 8, 9, 10, 11, 12, 13, 14, 15], [17, 15, 0, 1, 2, 3, 4, 5, 6, 7, 8, 9, 10, 11, 12, 13, 14]] [[], [], [], [], [2], [2, 3, 4], [2, 3, 4, 5], [], [], [7], [7, 8, 9], [7, 8, 9, 10], [2, 3, 4, 5, 6, 7, 8, 9, 10, 11], [], [13], [2, 3, 4, 5, 6, 7, 8, 9, 10, 11, 12, 13, 14], [0], [0, 1, 2, 3, 4, 5, 6, 7, 8, 9, 10, 11, 12, 13, 14, 15, 16], [0, 1, 2, 3, 4, 5, 6, 7, 8, 9, 10, 11, 12, 13, 14, 15, 16, 17]] rfl (by kernel_rfl) ?_
    refine qv_v (q_move rfl) ?_
    refine qv_v (q_move rfl) ?_
    refine qv_v (q_move rfl) ?_
    refine qv_v (q_move rfl) ?_
    refine qv_v (q_nilck rfl) ?_
    first | (refine qv_v (q_idxA Try.underlying105 sz56 rfl rfl (by omega) (r := _) (by rw [Nat.mul_one, Nat.zero_add])) ?_) | (refine qv_v (q_idxA Try.underlying105 sz56 rfl rfl (by omega) rfl) ?_)
    first | (refine qv_v (q_load 1 Try.underlying56 rfl rfl rfl (u32s_at (by first | omega | with_reducible assumption | (simp only [zb, zu, zw, zi, za]; omega) | (simp only [zs, zr, zm, za, zb, zu, zw, zi, zt, zd, zc, zn, *] <;> first | done | omega) | rfl))) ?_) | (refine qv_v (q_load 1 Try.underlying56 rfl rfl rfl rfl) ?_)
    refine qv_v (q_move rfl) ?_
    refine qv_v (q_move rfl) ?_
    refine qv_v (q_nilck rfl) ?_
    first | (refine qv_v (q_idxA Try.underlying105 sz56 rfl rfl (by omega) (r := _) (by rw [Nat.mul_one, Nat.zero_add])) ?_) | (refine qv_v (q_idxA Try.underlying105 sz56 rfl rfl (by omega) rfl) ?_)
    first | (refine qv_v (q_load 1 Try.underlying56 rfl rfl rfl (u32s_at (by first | omega | with_reducible assumption | (simp only [zb, zu, zw, zi, za]; omega) | (simp only [zs, zr, zm, za, zb, zu, zw, zi, zt, zd, zc, zn, *] <;> first | done | omega) | rfl))) ?_) | (refine qv_v (q_load 1 Try.underlying56 rfl rfl rfl rfl) ?_)
    refine qv_v (q_xor_u32 rfl rfl) ?_
    first | (refine qv_v (q_idxA (m := 0) Try.underlying36 sz3 rfl rfl (by omega) (r := _) (by rw [Nat.mul_one, Nat.zero_add])) ?_) | (refine qv_v (q_idxA (m := 0) Try.underlying36 sz3 rfl rfl (by omega) rfl) ?_)
    first | (refine qv_v (q_load 0 Try.underlying3 rfl rfl rfl (i64s_at (by first | omega | with_reducible assumption | (simp only [zb, zu, zw, zi, za]; omega) | (simp only [zs, zr, zm, za, zb, zu, zw, zi, zt, zd, zc, zn, *] <;> first | done | omega) | rfl))) ?_) | (refine qv_v (q_load 0 Try.underlying3 rfl rfl rfl rfl) ?_)
    refine qv_v (q_callV Try.func64 rfl rfl rfl (fun w1 H1 => rot_ra _ k ht16 w1)) ?_
    refine qv_v (q_nilck rfl) ?_
    refine qv_end ?_
    refine VL.keep (Sub.cons (s := 0) rfl (Sub.cons (s := 1) rfl (Sub.cons (s := 2) rfl (Sub.cons (s := 3) rfl (Sub.cons (s := 4) rfl (Sub.cons (s := 14) rfl (Sub.cons (s := 15) rfl (Sub.cons (s := 16) rfl (Sub.cons (s := 11) rfl (Sub.cons (s := 32) rfl (Sub.cons (s := 46) rfl (Sub.cons (s := 47) rfl (Sub.nil _))))))))))))) ?_
    first | (refine vl_v (q_idxA Try.underlying105 sz56 rfl rfl (by omega) (r := _) (by rw [Nat.mul_one, Nat.zero_add])) rfl ?_) | (refine vl_v (q_idxA Try.underlying105 sz56 rfl rfl (by omega) rfl) rfl ?_)
    first | (refine l_stU32 1 rfl rfl rfl sz56 (by first | omega | with_reducible assumption | (simp only [zb, zu, zw, zi, za]; omega) | (simp only [zs, zr, zm, za, zb, zu, zw, zi, zt, zd, zc, zn, *] <;> first | done | omega) | rfl) ?_) | (refine l_store1 1 rfl rfl rfl sz56 rfl (by first | decide | simp) ?_)
    simp only [List.set_cons_zero, List.set_cons_succ]
    refine vl_nil ?_
    refine (qn_n (th_n ?_))
    refine VC_seq ?_
    refine VC_drawV 12 [[], [], [0], [2, 1], [3], [], [], [5], [7, 6], [8], [4, 9], [0], [11, 1, 0, 2, 3, 4, 5, 6, 7, 8, 9, 10], [12, 10, 0, 1, 2, 3, 4, 5, 6, 7, 8, 9]] [[], [], [0], [0, 1, 2], [0, 1, 2, 3], [], [], [5], [5, 6, 7], [5, 6, 7, 8], [0, 1, 2, 3, 4, 5, 6, 7, 8, 9], [0], [0, 1, 2, 3, 4, 5, 6, 7, 8, 9, 10, 11], [0, 1, 2, 3, 4, 5, 6, 7, 8, 9, 10, 11, 12]] rfl (by kernel_rfl) ?_
    refine qv_v (q_move rfl) ?_
    refine qv_v (q_move rfl) ?_
    refine qv_v (q_nilck rfl) ?_
    first | (refine qv_v (q_idxA Try.underlying105 sz56 rfl rfl (by omega) (r := _) (by rw [Nat.mul_one, Nat.zero_add])) ?_) | (refine qv_v (q_idxA Try.underlying105 sz56 rfl rfl (by omega) rfl) ?_)
    first | (refine qv_v (q_load 1 Try.underlying56 rfl rfl rfl (u32s_at (by first | omega | with_reducible assumption | (simp only [zb, zu, zw, zi, za]; omega) | (simp only [zs, zr, zm, za, zb, zu, zw, zi, zt, zd, zc, zn, *] <;> first | done | omega) | rfl))) ?_) | (refine qv_v (q_load 1 Try.underlying56 rfl rfl rfl rfl) ?_)
    refine qv_v (q_move rfl) ?_
    refine qv_v (q_move rfl) ?_
    refine qv_v (q_nilck rfl) ?_
    first | (refine qv_v (q_idxA Try.underlying105 sz56 rfl rfl (by omega) (r := _) (by rw [Nat.mul_one, Nat.zero_add])) ?_) | (refine qv_v (q_idxA Try.underlying105 sz56 rfl rfl (by omega) rfl) ?_)
    first | (refine qv_v (q_load 1 Try.underlying56 rfl rfl rfl (u32s_at (by first | omega | with_reducible assumption | (simp only [zb, zu, zw, zi, za]; omega) | (simp only [zs, zr, zm, za, zb, zu, zw, zi, zt, zd, zc, zn, *] <;> first | done | omega) | rfl))) ?_) | (refine qv_v (q_load 1 Try.underlying56 rfl rfl rfl rfl) ?_)
    refine qv_v (q_add_u32 rfl rfl) ?_
    refine qv_v (q_nilck rfl) ?_
    refine qv_end ?_
    refine VL.keep (Sub.cons (s := 0) rfl (Sub.cons (s := 1) rfl (Sub.cons (s := 2) rfl (Sub.cons (s := 3) rfl (Sub.cons (s := 4) rfl (Sub.cons (s := 14) rfl (Sub.cons (s := 15) rfl (Sub.cons (s := 16) rfl (Sub.cons (s := 11) rfl (Sub.cons (s := 50) rfl (Sub.cons (s := 59) rfl (Sub.cons (s := 60) rfl (Sub.nil _))))))))))))) ?_
    first | (refine vl_v (q_idxA Try.underlying105 sz56 rfl rfl (by omega) (r := _) (by rw [Nat.mul_one, Nat.zero_add])) rfl ?_) | (refine vl_v (q_idxA Try.underlying105 sz56 rfl rfl (by omega) rfl) rfl ?_)
    first | (refine l_stU32 1 rfl rfl rfl sz56 (by first | omega | with_reducible assumption | (simp only [zb, zu, zw, zi, za]; omega) | (simp only [zs, zr, zm, za, zb, zu, zw, zi, zt, zd, zc, zn, *] <;> first | done | omega) | rfl) ?_) | (refine l_store1 1 rfl rfl rfl sz56 rfl (by first | decide | simp) ?_)
    simp only [List.set_cons_zero, List.set_cons_succ]
    refine vl_nil ?_
    refine (qn_n (th_n ?_))
    refine VC_drawV 17 [[], [], [], [], [2], [4, 3], [5], [], [], [7], [9, 8], [10], [6, 11], [], [13], [12, 14], [0], [16, 1, 0, 2, 3, 4, 5, 6, 7, 8, 9, 10, 11, 12, 13, 14, 15], [17, 15, 0, 1, 2, 3, 4, 5, 6, 7, 8, 9, 10, 11, 12, 13, 14]] [[], [], [], [], [2], [2, 3, 4], [2, 3, 4, 5], [], [], [7], [7, 8, 9], [7, 8, 9, 10], [2, 3, 4, 5, 6, 7, 8, 9, 10, 11], [], [13], [2, 3, 4, 5, 6, 7, 8, 9, 10, 11, 12, 13, 14], [0], [0, 1, 2, 3, 4, 5, 6, 7, 8, 9, 10, 11, 12, 13, 14, 15, 16], [0, 1, 2, 3, 4, 5, 6, 7, 8, 9, 10, 11, 12, 13, 14, 15, 16, 17]] rfl (by kernel_rfl) ?_
    refine qv_v (q_move rfl) ?_
    refine qv_v (q_move rfl) ?_
    refine qv_v (q_move rfl) ?_
    refine qv_v (q_move rfl) ?_
    refine qv_v (q_nilck rfl) ?_
    first | (refine qv_v (q_idxA Try.underlying105 sz56 rfl rfl (by omega) (r := _) (by rw [Nat.mul_one, Nat.zero_add])) ?_) | (refine qv_v (q_idxA Try.underlying105 sz56 rfl rfl (by omega) rfl) ?_)
    first | (refine qv_v (q_load 1 Try.underlying56 rfl rfl rfl (u32s_at (by first | omega | with_reducible assumption | (simp only [zb, zu, zw, zi, za]; omega) | (simp only [zs, zr, zm, za, zb, zu, zw, zi, zt, zd, zc, zn, *] <;> first | done | omega) | rfl))) ?_) | (refine qv_v (q_load 1 Try.underlying56 rfl rfl rfl rfl) ?_)
    refine qv_v (q_move rfl) ?_
    refine qv_v (q_move rfl) ?_
    refine qv_v (q_nilck rfl) ?_
    first | (refine qv_v (q_idxA Try.underlying105 sz56 rfl rfl (by omega) (r := _) (by rw [Nat.mul_one, Nat.zero_add])) ?_) | (refine qv_v (q_idxA Try.underlying105 sz56 rfl rfl (by omega) rfl) ?_)
    first | (refine qv_v (q_load 1 Try.underlying56 rfl rfl rfl (u32s_at (by first | omega | with_reducible assumption | (simp only [zb, zu, zw, zi, za]; omega) | (simp only [zs, zr, zm, za, zb, zu, zw, zi, zt, zd, zc, zn, *] <;> first | done | omega) | rfl))) ?_) | (refine qv_v (q_load 1 Try.underlying56 rfl rfl rfl rfl) ?_)
    refine qv_v (q_xor_u32 rfl rfl) ?_
    first | (refine qv_v (q_idxA (m := 1) Try.underlying36 sz3 rfl rfl (by omega) (r := _) (by rw [Nat.mul_one, Nat.zero_add])) ?_) | (refine qv_v (q_idxA (m := 1) Try.underlying36 sz3 rfl rfl (by omega) rfl) ?_)
    first | (refine qv_v (q_load 0 Try.underlying3 rfl rfl rfl (i64s_at (by first | omega | with_reducible assumption | (simp only [zb, zu, zw, zi, za]; omega) | (simp only [zs, zr, zm, za, zb, zu, zw, zi, zt, zd, zc, zn, *] <;> first | done | omega) | rfl))) ?_) | (refine qv_v (q_load 0 Try.underlying3 rfl rfl rfl rfl) ?_)
    refine qv_v (q_callV Try.func64 rfl rfl rfl (fun w1 H1 => rot_rb _ k ht16 w1)) ?_
    refine qv_v (q_nilck rfl) ?_
    refine qv_end ?_
    refine VL.keep (Sub.cons (s := 0) rfl (Sub.cons (s := 1) rfl (Sub.cons (s := 2) rfl (Sub.cons (s := 3) rfl (Sub.cons (s := 4) rfl (Sub.cons (s := 14) rfl (Sub.cons (s := 15) rfl (Sub.cons (s := 16) rfl (Sub.cons (s := 11) rfl (Sub.cons (s := 63) rfl (Sub.cons (s := 77) rfl (Sub.cons (s := 78) rfl (Sub.nil _))))))))))))) ?_
    first | (refine vl_v (q_idxA Try.underlying105 sz56 rfl rfl (by omega) (r := _) (by rw [Nat.mul_one, Nat.zero_add])) rfl ?_) | (refine vl_v (q_idxA Try.underlying105 sz56 rfl rfl (by omega) rfl) rfl ?_)
    first | (refine l_stU32 1 rfl rfl rfl sz56 (by first | omega | with_reducible assumption | (simp only [zb, zu, zw, zi, za]; omega) | (simp only [zs, zr, zm, za, zb, zu, zw, zi, zt, zd, zc, zn, *] <;> first | done | omega) | rfl) ?_) | (refine l_store1 1 rfl rfl rfl sz56 rfl (by first | decide | simp) ?_)
    simp only [List.set_cons_zero, List.set_cons_succ]
    refine vl_nil ?_
    refine (qn_n (bl_n (th_n ?_)))
    refine VC_region ?_
    first | (refine vl_v (q_add_n (q := 1) rfl rfl (by omega)) rfl ?_) | (refine vl_v (q_add_i rfl rfl (by omega) (by omega)) rfl ?_)
    refine vl_v (q_move rfl) rfl ?_
    refine vl_nil ?_
    refine (th_n ?_)
    refine ⟨k + 1, by omega, by omega, (Sub.cons (s := 0) rfl (Sub.cons (s := 1) rfl (Sub.cons (s := 2) rfl (Sub.cons (s := 3) rfl (Sub.cons (s := 4) rfl (Sub.cons (s := 14) rfl (Sub.cons (s := 15) rfl (Sub.nil _)))))))), fun w H => St.pickR 2 H (ks := [1]) (by decide) (by decide) rfl rfl⟩
  · skip
    have ht16 := of_decide_eq_false ht16
    obtain rfl : k = 2 := by omega
    refine VC_exit ?_
    refine (th_x (th_x (bl_xs ?_)))
    refine ⟨_, res0 rfl, ?_⟩
    exact ⟨rfl, rfl⟩
end Go.Proofs.Ytkadnmoephkklaa
