/- Chapter 4: a block comes. No condition. -/
import Derived.Test.YtjlhehdkopponaaD04b
import Derived.Test.YtjlhehdkopponaaPF
namespace Go.Proofs.Ytjlhehdkopponaa
open Go.RowKit Go.PBYtjlhehdkopponaa
set_option linter.unusedVariables false
set_option linter.unusedSimpArgs false
set_option maxRecDepth 100000

def awK : Nat → List UInt8
  | 0 => List.replicate 32 0
  | i + 1 => (awK i).set i (UInt8.ofNat i)
theorem awK_length : ∀ i, (awK i).length = 32
  | 0 => rfl
  | i + 1 => by rw [awK, List.length_set, awK_length]
def awN : List UInt8 := [0, 0, 0, 9, 0, 0, 0, 74, 0, 0, 0, 0]
theorem aw0 : (((block (awK 32) awN (UInt32.ofNat 1)).getD 0 0).toNat) = 16 := by kernel_rfl
theorem aw1 : (((block (awK 32) awN (UInt32.ofNat 1)).getD 1 0).toNat) = 241 := by kernel_rfl
theorem aw63 : (((block (awK 32) awN (UInt32.ofNat 1)).getD 63 0).toNat) = 78 := by kernel_rfl
theorem awake_calls (w : World) : Calls Try.prog 8 #[] w fun e w' => e = .returned (.bool true) ∧ Kept [] w w' := by
  refine enter (n := 28) (R := fun e L => e = .returned (.bool true)) [] Try.func8 rfl rfl rfl (St.refl w) ?_ (fun e w' L' h H => ⟨h, H.kept⟩)
  refine VC_seq ?_
  refine VC_region ?_
  refine vl_v (q_assign rfl) rfl ?_
  refine vl_nil ?_
  refine (th_n ?_)
  refine VC_seq ?_
  refine VC_region ?_
  refine l_allocA zr23 rfl ?_
  intro b1
  refine vl_nil ?_
  refine (th_n ?_)
  refine VC_seq ?_
  refine VC_seq ?_
  refine VC_region ?_
  refine vl_v (q_assign rfl) rfl ?_
  refine vl_nil ?_
  refine (th_n ?_)
  refine VC_block ?_
  refine VC_loop (ι := Nat) (fun k => k ≤ 32) (fun k => [(1, vP b1 0), (2, vN k)]) (fun k => [.blk b1 23 (bys (awK k))]) (fun k => 32 - k) 0 (by omega) (Sub.cons (s := 1) rfl (Sub.cons (s := 2) rfl (Sub.nil _))) (fun w H => H) ?_
  rintro k hp
  have hl := awK_length k
  refine VC_seq ?_
  refine VC_seq ?_
  refine VC_region ?_
  refine vl_v (q_move rfl) rfl ?_
  first | (refine vl_v (q_lss_n (q := 32) Try.underlying3 rfl rfl) rfl ?_) | (refine vl_v (q_lss_k Try.underlying3 rfl rfl) rfl ?_)
  refine vl_nil ?_
  refine (th_n ?_)
  refine VC_cond rfl (fun ht5 => ?_) (fun ht5 => ?_)
  · skip
    have ht5 := of_decide_eq_true ht5
    refine VC_skip ?_
    refine (th_n ?_)
    refine VC_seq ?_
    refine VC_block ?_
    refine VC_region ?_
    refine vl_v (q_move rfl) rfl ?_
    refine vl_v (q_move rfl) rfl ?_
    refine vl_v (q_conv_nu8 Try.underlying3 Try.underlying5 rfl) rfl ?_
    first | (refine vl_v (q_idxA Try.underlying23 sz5 rfl rfl (by omega) (r := _) (by rw [Nat.mul_one, Nat.zero_add])) rfl ?_) | (refine vl_v (q_idxA Try.underlying23 sz5 rfl rfl (by omega) rfl) rfl ?_)
    first | (refine l_stB 0 rfl rfl rfl sz5 (by first | omega | with_reducible assumption | (simp only [List.length_set, List.length_replicate, List.length_map, List.length_append, bys_length, u32s_length, u64s_length, i64s_length, List.length_take, List.length_drop, List.length_cons, List.length_nil, *] <;> first | done | omega) | rfl) ?_) | (refine l_store1 0 rfl rfl rfl sz5 rfl (by decide) ?_)
    simp only [List.set_cons_zero, List.set_cons_succ]
    refine vl_nil ?_
    refine (bl_n (th_n ?_))
    refine VC_region ?_
    refine vl_v (q_move rfl) rfl ?_
    first | (refine vl_v (q_add_n (q := 1) rfl rfl (by omega)) rfl ?_) | (refine vl_v (q_add_i rfl rfl (by omega) (by omega)) rfl ?_)
    refine vl_v (q_assign rfl) rfl ?_
    refine vl_nil ?_
    refine (th_n ?_)
    refine ⟨k + 1, by omega, by omega, (Sub.cons (s := 1) rfl (Sub.cons (s := 2) rfl (Sub.nil _))), fun w H => H⟩
  · skip
    have ht5 := of_decide_eq_false ht5
    obtain rfl : k = 32 := by omega
    have hl := awK_length 32
    have hb := block_length (awK 32) awN (UInt32.ofNat 1)
    refine VC_exit ?_
    refine (th_x (th_x (bl_xs (th_n ?_))))
    refine VC_seq ?_
    refine VC_region ?_
    first | (refine vl_v (q_loads 0 Try.underlying23 rfl rfl rfl sz23 (by first | omega | with_reducible assumption | (simp only [List.length_set, List.length_replicate, List.length_map, List.length_append, bys_length, u32s_length, u64s_length, i64s_length, List.length_take, List.length_drop, List.length_cons, List.length_nil, *] <;> first | done | omega) | rfl)) rfl ?_) | (refine vl_v (q_loadsAt 0 Try.underlying23 rfl rfl rfl sz23 (by rfl) (by first | omega | with_reducible assumption | (simp only [List.length_set, List.length_replicate, List.length_map, List.length_append, bys_length, u32s_length, u64s_length, i64s_length, List.length_take, List.length_drop, List.length_cons, List.length_nil, *] <;> first | done | omega) | rfl)) rfl ?_)
    refine vl_v (q_build (c' := bys awN) rfl (by kernel_rfl)) rfl ?_
    refine vl_v (q_callV Try.func9 rfl rfl rfl (fun w1 H1 => block_calls (awK 32) awN (UInt32.ofNat 1) hl rfl w1)) rfl ?_
    refine l_allocA zr29 rfl ?_
    intro b3
    refine l_storeA 0 rfl rfl rfl sz29 (by first | omega | with_reducible assumption | (simp only [List.length_set, List.length_replicate, List.length_map, List.length_append, bys_length, u32s_length, u64s_length, i64s_length, List.length_take, List.length_drop, List.length_cons, List.length_nil, *] <;> first | done | omega) | rfl) (by first | exact bys_one _ | exact u32s_one _ | exact u64s_one _ | exact i64s_one _ | with_reducible assumption | exact one_all rfl | (refine app_one ?_ ?_ <;> first | exact bys_one _ | (simp; done))) (by first | omega | with_reducible assumption | (simp only [List.length_set, List.length_replicate, List.length_map, List.length_append, bys_length, u32s_length, u64s_length, i64s_length, List.length_take, List.length_drop, List.length_cons, List.length_nil, *] <;> first | done | omega) | rfl) ?_
    simp only [List.set_cons_zero, List.set_cons_succ]
    refine vl_nil ?_
    refine (th_n ?_)
    refine VC_seq ?_
    refine VC_region ?_
    first | (refine vl_v (q_idxA (m := 0) Try.underlying29 sz5 rfl rfl (by omega) (r := _) (by rw [Nat.mul_one, Nat.zero_add])) rfl ?_) | (refine vl_v (q_idxA (m := 0) Try.underlying29 sz5 rfl rfl (by omega) rfl) rfl ?_)
    first | (refine vl_v (q_load 0 Try.underlying5 rfl rfl rfl (bys_at (by first | omega | with_reducible assumption | (simp only [List.length_set, List.length_replicate, List.length_map, List.length_append, bys_length, u32s_length, u64s_length, i64s_length, List.length_take, List.length_drop, List.length_cons, List.length_nil, *] <;> first | done | omega) | rfl))) rfl ?_) | (refine vl_v (q_load 0 Try.underlying5 rfl rfl rfl rfl) rfl ?_)
    refine vl_v (q_true (q_eql_n (q := 16) Try.underlying5 rfl rfl) (decide_eq_true aw0)) rfl ?_
    refine vl_v (q_move rfl) rfl ?_
    first | (refine vl_vg rfl (q_idxA (m := 1) Try.underlying29 sz5 rfl rfl (by omega) (r := _) (by rw [Nat.mul_one, Nat.zero_add])) rfl ?_) | (refine vl_vg rfl (q_idxA (m := 1) Try.underlying29 sz5 rfl rfl (by omega) rfl) rfl ?_)
    first | (refine vl_vg rfl (q_load 0 Try.underlying5 rfl rfl rfl (bys_at (by first | omega | with_reducible assumption | (simp only [List.length_set, List.length_replicate, List.length_map, List.length_append, bys_length, u32s_length, u64s_length, i64s_length, List.length_take, List.length_drop, List.length_cons, List.length_nil, *] <;> first | done | omega) | rfl))) rfl ?_) | (refine vl_vg rfl (q_load 0 Try.underlying5 rfl rfl rfl rfl) rfl ?_)
    refine vl_vg rfl (q_true (q_eql_n (q := 241) Try.underlying5 rfl rfl) (decide_eq_true aw1)) rfl ?_
    first | (refine vl_v (q_pickT rfl rfl) rfl ?_) | (refine vl_v (q_pickF rfl rfl) rfl ?_)
    refine vl_v (q_move rfl) rfl ?_
    first | (refine vl_vg rfl (q_idxA (m := 63) Try.underlying29 sz5 rfl rfl (by omega) (r := _) (by rw [Nat.mul_one, Nat.zero_add])) rfl ?_) | (refine vl_vg rfl (q_idxA (m := 63) Try.underlying29 sz5 rfl rfl (by omega) rfl) rfl ?_)
    first | (refine vl_vg rfl (q_load 0 Try.underlying5 rfl rfl rfl (bys_at (by first | omega | with_reducible assumption | (simp only [List.length_set, List.length_replicate, List.length_map, List.length_append, bys_length, u32s_length, u64s_length, i64s_length, List.length_take, List.length_drop, List.length_cons, List.length_nil, *] <;> first | done | omega) | rfl))) rfl ?_) | (refine vl_vg rfl (q_load 0 Try.underlying5 rfl rfl rfl rfl) rfl ?_)
    refine vl_vg rfl (q_true (q_eql_n (q := 78) Try.underlying5 rfl rfl) (decide_eq_true aw63)) rfl ?_
    first | (refine vl_v (q_pickT rfl rfl) rfl ?_) | (refine vl_v (q_pickF rfl rfl) rfl ?_)
    refine vl_v (q_assign rfl) rfl ?_
    refine vl_nil ?_
    refine (th_n ?_)
    refine VC_ret ?_
    refine ⟨_, res1 rfl rfl, ?_⟩
    exact rfl
end Go.Proofs.Ytjlhehdkopponaa
