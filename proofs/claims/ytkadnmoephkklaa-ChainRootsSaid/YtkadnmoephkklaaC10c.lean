/- What the law's helper functions of chapter 10 do. Conditions: lengths. -/
import Derived.Test.YtkadnmoephkklaaC10b
namespace Go.Proofs.Ytkadnmoephkklaa
open Go.RowKit Go.PBYtkadnmoephkklaa
set_option linter.unusedVariables false
set_option linter.unusedSimpArgs false
set_option maxRecDepth 10000

theorem at32 {x : List UInt8} {j n : Nat} (hx : x.length = 32 * n) (hj : j < n) : ((bys x).drop (j * 32)).take 32 = bys ((x.drop (j * 32)).take 32) := by rw [bys_drop, bys_take]
theorem at32_length {x : List UInt8} {j n : Nat} (hx : x.length = 32 * n) (hj : j < n) : ((x.drop (j * 32)).take 32).length = 32 := by simp; omega
theorem walkPart {c : List UInt8} : ∀ {n : Nat} (j : Nat), j < n → ((walkB c n).drop (j * 32)).take 32 = keyP (chainN c j) tMsg
  | 0, j, h => by omega
  | n + 1, j, h => by
    have hl := walkB_length c n
    have hk := keyP_length (chainN c n) tMsg
    by_cases hj : j = n
    · subst hj
      rw [walkB, List.drop_left' (by omega), List.take_of_length_le (by omega)]
    · have ih := walkPart (c := c) (n := n) j (by omega)
      rw [walkB, List.drop_append_of_le_length (by omega), List.take_append_of_le_length (by simp; omega), ih]
theorem walkPartB {c : List UInt8} {n : Nat} {more : List Value} (j : Nat) (h : j < n) (o : Nat) (ho : o = j * 32) : ((bys (walkB c n) ++ more).drop o).take 32 = bys (keyP (chainN c j) tMsg) := by
  have hl := walkB_length c n
  subst ho
  rw [List.drop_append_of_le_length (by rw [bys_length]; omega), List.take_append_of_le_length (by rw [List.length_drop, bys_length]; omega), bys_drop, bys_take, walkPart j h]
theorem walkB_add (c : List UInt8) (n : Nat) : ∀ m, walkB c n ++ walkB (chainN c n) m = walkB c (n + m) ∧ chainN (chainN c n) m = chainN c (n + m)
  | 0 => by simp [walkB, chainN]
  | m + 1 => by
    obtain ⟨h1, h2⟩ := walkB_add c n m
    refine ⟨?_, ?_⟩
    · rw [walkB, ← List.append_assoc, h1, h2]; rfl
    · rw [chainN, h2]; rfl

set_option maxHeartbeats 2000000 in
theorem same10_calls (x : List UInt8) (n : Nat) (hx : x.length = 32 * n) (hn : n ≤ 1000) (A B : Option Addr) (c d : Nat) (w : World) (hA : SlAt w A (bys x)) (hB : SlAt w B (bys x)) :
    Calls Try.prog 27 #[.slice A n c, .slice B n d] w fun e w' => e = .returned (.bool true) ∧ Kept [] w w' := by
  refine enter (n := 26) (R := fun e L => e = .returned (.bool true)) [.slice A n c, .slice B n d] Try.func27 rfl rfl rfl (St.refl w) ?_ (fun e w' L' h H => ⟨h, H.kept⟩)
  refine VC_seq ?_
  refine VC_region ?_
  refine vl_v (q_assign rfl) rfl ?_
  refine vl_nil ?_
  refine (th_n ?_)
  refine VC_seq ?_
  refine VC_seq ?_
  refine VC_region ?_
  refine vl_v (q_move rfl) rfl ?_
  refine vl_v (q_lenS Try.underlying32 rfl) rfl ?_
  refine vl_v (q_move rfl) rfl ?_
  refine vl_v (q_lenS Try.underlying32 rfl) rfl ?_
  refine vl_v (q_false (q_neq_n Try.underlying3 rfl rfl) (by simp)) rfl ?_
  refine vl_nil ?_
  refine (th_n ?_)
  refine VC_no (rfl) ?_
  refine VC_skip ?_
  refine (th_n ?_)
  refine VC_seq ?_
  refine VC_seq ?_
  refine VC_region ?_
  refine vl_v (q_assign rfl) rfl ?_
  refine vl_nil ?_
  refine (th_n ?_)
  refine VC_block ?_
  refine VC_loop (ι := Nat) (fun i => i ≤ n) (fun i => [(0, .slice A n c), (1, .slice B n d), (5, vN i)]) (fun i => []) (fun i => n - i) 0 (by omega) (Sub.cons (s := 0) rfl (Sub.cons (s := 1) rfl (Sub.cons (s := 5) rfl (Sub.nil _)))) (fun w H => H) ?_
  rintro i hp
  refine VC_seq ?_
  refine VC_seq ?_
  refine VC_region ?_
  refine vl_v (q_move rfl) rfl ?_
  refine vl_v (q_move rfl) rfl ?_
  refine vl_v (q_lenS Try.underlying32 rfl) rfl ?_
  first | (refine vl_v (q_lss_n Try.underlying3 rfl rfl) rfl ?_) | (refine vl_v (q_lss_k Try.underlying3 rfl rfl) rfl ?_)
  refine vl_nil ?_
  refine (th_n ?_)
  refine VC_cond rfl (fun ht14 => ?_) (fun ht14 => ?_)
  · skip
    have ht14 := of_decide_eq_true ht14
    refine VC_skip ?_
    refine (th_n ?_)
    refine VC_seq ?_
    refine VC_block ?_
    refine VC_seq ?_
    have ht14 : i < n := ht14
    have hl32 := at32_length hx ht14
    refine VC_drawV 8 [[], [], [0, 1], [2], [], [], [4, 5], [6], [3, 7]] [[], [], [0, 1], [0, 1, 2], [], [], [4, 5], [4, 5, 6], [0, 1, 2, 3, 4, 5, 6, 7]] rfl (by kernel_rfl) ?_
    refine qv_v (q_move rfl) ?_
    refine qv_v (q_move rfl) ?_
    refine qv_v (q_idxRdN (m := i) Try.underlying32 sz23 rfl rfl ht14 (Reads.old hA) (by rw [bys_length]; omega)) ?_
    refine qv_v (q_loadsRd Try.underlying23 rfl sz23 rfl (Reads.old hA) (at32 hx ht14) (by rw [bys_length]; exact hl32) (by decide)) ?_
    refine qv_v (q_move rfl) ?_
    refine qv_v (q_move rfl) ?_
    refine qv_v (q_idxRdN (m := i) Try.underlying32 sz23 rfl rfl ht14 (Reads.old hB) (by rw [bys_length]; omega)) ?_
    refine qv_v (q_loadsRd Try.underlying23 rfl sz23 rfl (Reads.old hB) (at32 hx ht14) (by rw [bys_length]; exact hl32) (by decide)) ?_
    refine qv_end ?_
    refine VL.keep (Sub.cons (s := 0) rfl (Sub.cons (s := 1) rfl (Sub.cons (s := 5) rfl (Sub.cons (s := 14) rfl (Sub.cons (s := 20) rfl (Sub.cons (s := 24) rfl (Sub.nil _))))))) ?_
    refine vl_v (q_as (v := .bool false) (q_neB flat32 rfl rfl (fits_bys' hl32) (fits_bys' hl32)) (by simp)) rfl ?_
    refine vl_nil ?_
    refine (qn_n (th_n ?_))
    refine VC_no (rfl) ?_
    refine VC_skip ?_
    refine (bl_n (th_n ?_))
    refine VC_region ?_
    refine vl_v (q_move rfl) rfl ?_
    first | (refine vl_v (q_add_n (q := 1) rfl rfl (by omega)) rfl ?_) | (refine vl_v (q_add_i rfl rfl (by omega) (by omega)) rfl ?_)
    refine vl_v (q_assign rfl) rfl ?_
    refine vl_nil ?_
    refine (th_n ?_)
    refine ⟨i + 1, by omega, by omega, (Sub.cons (s := 0) rfl (Sub.cons (s := 1) rfl (Sub.cons (s := 5) rfl (Sub.nil _)))), fun w H => H⟩
  · skip
    have ht14 := of_decide_eq_false ht14
    refine VC_exit ?_
    refine (th_x (th_x (bl_xs (th_n ?_))))
    refine VC_seq ?_
    refine VC_region ?_
    refine vl_v (q_assign rfl) rfl ?_
    refine vl_nil ?_
    refine (th_n ?_)
    refine VC_ret ?_
    refine ⟨_, res1 rfl rfl, ?_⟩
    exact rfl

theorem aw10 : decide (keyP k1 tMsg = keyP k1 tChain) = false := by kernel_rfl
set_option maxHeartbeats 2000000 in
theorem awake10_calls (w : World) : Calls Try.prog 25 #[] w fun e w' => e = .returned (.bool true) ∧ Kept [] w w' := by
  have hm := keyP_length k1 tMsg
  have hc := keyP_length k1 tChain
  have hm1 := chainN_length k1 rfl 1
  refine enter (n := 41) (R := fun e L => e = .returned (.bool true)) [] Try.func25 rfl rfl rfl (St.refl w) ?_ (fun e w' L' h H => ⟨h, H.kept⟩)
  refine VC_seq ?_
  refine VC_region ?_
  refine vl_v (q_assign rfl) rfl ?_
  refine vl_nil ?_
  refine (th_n ?_)
  refine VC_seq ?_
  refine VC_region ?_
  refine vl_v (q_build (c' := bys k1) rfl (by kernel_rfl)) rfl ?_
  refine vl_v (q_callV Try.func28 rfl rfl rfl (fun w1 H1 => step_calls k1 rfl w1)) rfl ?_
  refine vl_v (q_move rfl) rfl ?_
  refine vl_v (q_ext rfl rfl) rfl ?_
  refine vl_v (q_ext rfl rfl) rfl ?_
  refine l_allocA zr23 rfl ?_
  intro b1
  refine l_allocA zr23 rfl ?_
  intro b2
  refine l_storeA 1 rfl rfl rfl sz23 (by first | omega | with_reducible assumption | (simp only [bys_length, u32s_length, u64s_length, i64s_length, n64s_length, List.length_append]; omega) | (simp only [List.length_set, List.length_replicate, List.length_map, List.length_append, bys_length, u32s_length, u64s_length, i64s_length, List.length_take, List.length_drop, List.length_cons, List.length_nil, *] <;> first | done | omega) | rfl) (by first | with_reducible exact bys_one _ | with_reducible exact u32s_one _ | with_reducible exact u64s_one _ | with_reducible exact i64s_one _ | with_reducible exact n64s_one _ | exact bys_one _ | exact u32s_one _ | exact u64s_one _ | exact i64s_one _ | with_reducible assumption | exact one_all rfl | (refine app_one ?_ ?_ <;> first | exact bys_one _ | (simp; done))) (by first | omega | with_reducible assumption | (simp only [bys_length, u32s_length, u64s_length, i64s_length, n64s_length, List.length_append]; omega) | (simp only [List.length_set, List.length_replicate, List.length_map, List.length_append, bys_length, u32s_length, u64s_length, i64s_length, List.length_take, List.length_drop, List.length_cons, List.length_nil, *] <;> first | done | omega) | rfl) ?_
  simp only [List.set_cons_zero, List.set_cons_succ]
  refine l_storeA 0 rfl rfl rfl sz23 (by first | omega | with_reducible assumption | (simp only [bys_length, u32s_length, u64s_length, i64s_length, n64s_length, List.length_append]; omega) | (simp only [List.length_set, List.length_replicate, List.length_map, List.length_append, bys_length, u32s_length, u64s_length, i64s_length, List.length_take, List.length_drop, List.length_cons, List.length_nil, *] <;> first | done | omega) | rfl) (by first | with_reducible exact bys_one _ | with_reducible exact u32s_one _ | with_reducible exact u64s_one _ | with_reducible exact i64s_one _ | with_reducible exact n64s_one _ | exact bys_one _ | exact u32s_one _ | exact u64s_one _ | exact i64s_one _ | with_reducible assumption | exact one_all rfl | (refine app_one ?_ ?_ <;> first | exact bys_one _ | (simp; done))) (by first | omega | with_reducible assumption | (simp only [bys_length, u32s_length, u64s_length, i64s_length, n64s_length, List.length_append]; omega) | (simp only [List.length_set, List.length_replicate, List.length_map, List.length_append, bys_length, u32s_length, u64s_length, i64s_length, List.length_take, List.length_drop, List.length_cons, List.length_nil, *] <;> first | done | omega) | rfl) ?_
  simp only [List.set_cons_zero, List.set_cons_succ]
  refine vl_nil ?_
  refine (th_n ?_)
  refine VC_seq ?_
  refine VC_region ?_
  refine vl_v (q_build (c' := bys k1) rfl (by kernel_rfl)) rfl ?_
  refine l_callT3 Try.func26 rfl rfl rfl (fun w1 H1 => walk_calls k1 1 rfl (by decide) w1) rfl ?_
  intro A13 c13 hc13 hm13
  refine vl_v (q_move rfl) rfl ?_
  refine vl_v (q_ext rfl rfl) rfl ?_
  refine vl_v (q_ext rfl rfl) rfl ?_
  refine vl_v (q_ext rfl rfl) rfl ?_
  refine l_allocA zr23 rfl ?_
  intro b4
  refine vl_v (q_assign rfl) rfl ?_
  refine l_storeA 0 rfl rfl rfl sz23 (by first | omega | with_reducible assumption | (simp only [bys_length, u32s_length, u64s_length, i64s_length, n64s_length, List.length_append]; omega) | (simp only [List.length_set, List.length_replicate, List.length_map, List.length_append, bys_length, u32s_length, u64s_length, i64s_length, List.length_take, List.length_drop, List.length_cons, List.length_nil, *] <;> first | done | omega) | rfl) (by first | with_reducible exact bys_one _ | with_reducible exact u32s_one _ | with_reducible exact u64s_one _ | with_reducible exact i64s_one _ | with_reducible exact n64s_one _ | exact bys_one _ | exact u32s_one _ | exact u64s_one _ | exact i64s_one _ | with_reducible assumption | exact one_all rfl | (refine app_one ?_ ?_ <;> first | exact bys_one _ | (simp; done))) (by first | omega | with_reducible assumption | (simp only [bys_length, u32s_length, u64s_length, i64s_length, n64s_length, List.length_append]; omega) | (simp only [List.length_set, List.length_replicate, List.length_map, List.length_append, bys_length, u32s_length, u64s_length, i64s_length, List.length_take, List.length_drop, List.length_cons, List.length_nil, *] <;> first | done | omega) | rfl) ?_
  simp only [List.set_cons_zero, List.set_cons_succ]
  refine vl_v (q_assign rfl) rfl ?_
  refine vl_nil ?_
  refine (th_n ?_)
  refine VC_seq ?_
  refine VC_pickL (ks := [1, 0, 2, 3]) (by decide) rfl ?_
  refine VC_rowBlk (by omega) ?_
  intro bK more eA
  subst eA
  refine VC_drawV 22 [[], [], [0, 1], [2], [3], [4, 3], [3, 5], [6, 3], [7], [8, 7], [9, 7], [7, 10], [11, 7], [12], [13, 12], [14, 12], [12], [15, 16, 12], [12, 17], [18, 12], [19], [19], [20, 21, 19], [19, 22], [23, 19, 0, 1, 2, 3, 4, 5, 6, 7, 8, 9, 10, 11, 12, 13, 14, 15, 16, 17, 18, 20, 21, 22]] [[], [], [0, 1], [0, 1, 2], [0, 1, 2, 3], [0, 1, 2, 3, 4], [0, 1, 2, 3, 4, 5], [0, 1, 2, 3, 4, 5, 6], [0, 1, 2, 3, 4, 5, 6, 7], [0, 1, 2, 3, 4, 5, 6, 7, 8], [0, 1, 2, 3, 4, 5, 6, 7, 8, 9], [0, 1, 2, 3, 4, 5, 6, 7, 8, 9, 10], [0, 1, 2, 3, 4, 5, 6, 7, 8, 9, 10, 11], [0, 1, 2, 3, 4, 5, 6, 7, 8, 9, 10, 11, 12], [0, 1, 2, 3, 4, 5, 6, 7, 8, 9, 10, 11, 12, 13], [0, 1, 2, 3, 4, 5, 6, 7, 8, 9, 10, 11, 12, 13, 14], [0, 1, 2, 3, 4, 5, 6, 7, 8, 9, 10, 11, 12], [0, 1, 2, 3, 4, 5, 6, 7, 8, 9, 10, 11, 12, 13, 14, 15, 16], [0, 1, 2, 3, 4, 5, 6, 7, 8, 9, 10, 11, 12, 13, 14, 15, 16, 17], [0, 1, 2, 3, 4, 5, 6, 7, 8, 9, 10, 11, 12, 13, 14, 15, 16, 17, 18], [0, 1, 2, 3, 4, 5, 6, 7, 8, 9, 10, 11, 12, 13, 14, 15, 16, 17, 18, 19], [0, 1, 2, 3, 4, 5, 6, 7, 8, 9, 10, 11, 12, 13, 14, 15, 16, 17, 18, 19], [0, 1, 2, 3, 4, 5, 6, 7, 8, 9, 10, 11, 12, 13, 14, 15, 16, 17, 18, 19, 20, 21], [0, 1, 2, 3, 4, 5, 6, 7, 8, 9, 10, 11, 12, 13, 14, 15, 16, 17, 18, 19, 20, 21, 22], [0, 1, 2, 3, 4, 5, 6, 7, 8, 9, 10, 11, 12, 13, 14, 15, 16, 17, 18, 19, 20, 21, 22, 23]] rfl (by kernel_rfl) ?_
  first | (refine qv_v (q_loads 3 Try.underlying23 rfl rfl rfl sz23 (by first | omega | with_reducible assumption | (simp only [bys_length, u32s_length, u64s_length, i64s_length, n64s_length, List.length_append]; omega) | (simp only [List.length_set, List.length_replicate, List.length_map, List.length_append, bys_length, u32s_length, u64s_length, i64s_length, List.length_take, List.length_drop, List.length_cons, List.length_nil, *] <;> first | done | omega) | rfl)) ?_) | (refine qv_v (q_loadsAt 3 Try.underlying23 rfl rfl rfl sz23 (by rfl) (by first | omega | with_reducible assumption | (simp only [bys_length, u32s_length, u64s_length, i64s_length, n64s_length, List.length_append]; omega) | (simp only [List.length_set, List.length_replicate, List.length_map, List.length_append, bys_length, u32s_length, u64s_length, i64s_length, List.length_take, List.length_drop, List.length_cons, List.length_nil, *] <;> first | done | omega) | rfl)) ?_)
  first | (refine qv_v (q_loads 2 Try.underlying23 rfl rfl rfl sz23 (by first | omega | with_reducible assumption | (simp only [bys_length, u32s_length, u64s_length, i64s_length, n64s_length, List.length_append]; omega) | (simp only [List.length_set, List.length_replicate, List.length_map, List.length_append, bys_length, u32s_length, u64s_length, i64s_length, List.length_take, List.length_drop, List.length_cons, List.length_nil, *] <;> first | done | omega) | rfl)) ?_) | (refine qv_v (q_loadsAt 2 Try.underlying23 rfl rfl rfl sz23 (by rfl) (by first | omega | with_reducible assumption | (simp only [bys_length, u32s_length, u64s_length, i64s_length, n64s_length, List.length_append]; omega) | (simp only [List.length_set, List.length_replicate, List.length_map, List.length_append, bys_length, u32s_length, u64s_length, i64s_length, List.length_take, List.length_drop, List.length_cons, List.length_nil, *] <;> first | done | omega) | rfl)) ?_)
  refine qv_v (q_as (v := .bool true) (q_neB flat32 rfl rfl (fits_bys' hm) (fits_bys' hc)) (by rw [aw10]; rfl)) ?_
  refine qv_v (q_move rfl) ?_
  refine qv_vg (rfl) (q_move rfl) ?_
  refine qv_vg (rfl) (q_true (q_eql_n (q := 0) Try.underlying26 rfl rfl) (decide_eq_true rfl)) ?_
  first | (refine qv_v (q_pickT rfl rfl) ?_) | (refine qv_v (q_pickF rfl rfl) ?_)
  refine qv_v (q_move rfl) ?_
  refine qv_vg (rfl) (q_move rfl) ?_
  refine qv_vg (rfl) (q_lenS Try.underlying32 rfl) ?_
  refine qv_vg (rfl) (q_true (q_eql_n (q := 1) Try.underlying3 rfl rfl) (decide_eq_true rfl)) ?_
  first | (refine qv_v (q_pickT rfl rfl) ?_) | (refine qv_v (q_pickF rfl rfl) ?_)
  refine qv_v (q_move rfl) ?_
  refine qv_vg (rfl) (q_move rfl) ?_
  refine qv_vg (rfl) (q_idxS0 (m := 0) Try.underlying32 sz23 rfl rfl (by omega) rfl) ?_
  refine qv_vg (rfl) (q_loadsAt (vs := bys (keyP k1 tMsg)) 0 Try.underlying23 rfl rfl rfl sz23 (walkPartB 0 (by decide) 0 rfl) (by rw [bys_length, hm])) ?_
  first | (refine qv_vg (rfl) (q_loads 3 Try.underlying23 rfl rfl rfl sz23 (by first | omega | with_reducible assumption | (simp only [bys_length, u32s_length, u64s_length, i64s_length, n64s_length, List.length_append]; omega) | (simp only [List.length_set, List.length_replicate, List.length_map, List.length_append, bys_length, u32s_length, u64s_length, i64s_length, List.length_take, List.length_drop, List.length_cons, List.length_nil, *] <;> first | done | omega) | rfl)) ?_) | (refine qv_vg (rfl) (q_loadsAt 3 Try.underlying23 rfl rfl rfl sz23 (by rfl) (by first | omega | with_reducible assumption | (simp only [bys_length, u32s_length, u64s_length, i64s_length, n64s_length, List.length_append]; omega) | (simp only [List.length_set, List.length_replicate, List.length_map, List.length_append, bys_length, u32s_length, u64s_length, i64s_length, List.length_take, List.length_drop, List.length_cons, List.length_nil, *] <;> first | done | omega) | rfl)) ?_)
  refine qv_vg (rfl) (q_eqT flat32 rfl rfl (fits_bys' hm) rfl) ?_
  first | (refine qv_v (q_pickT rfl rfl) ?_) | (refine qv_v (q_pickF rfl rfl) ?_)
  refine qv_v (q_move rfl) ?_
  first | (refine qv_vg (rfl) (q_loads 1 Try.underlying23 rfl rfl rfl sz23 (by first | omega | with_reducible assumption | (simp only [bys_length, u32s_length, u64s_length, i64s_length, n64s_length, List.length_append]; omega) | (simp only [List.length_set, List.length_replicate, List.length_map, List.length_append, bys_length, u32s_length, u64s_length, i64s_length, List.length_take, List.length_drop, List.length_cons, List.length_nil, *] <;> first | done | omega) | rfl)) ?_) | (refine qv_vg (rfl) (q_loadsAt 1 Try.underlying23 rfl rfl rfl sz23 (by rfl) (by first | omega | with_reducible assumption | (simp only [bys_length, u32s_length, u64s_length, i64s_length, n64s_length, List.length_append]; omega) | (simp only [List.length_set, List.length_replicate, List.length_map, List.length_append, bys_length, u32s_length, u64s_length, i64s_length, List.length_take, List.length_drop, List.length_cons, List.length_nil, *] <;> first | done | omega) | rfl)) ?_)
  first | (refine qv_vg (rfl) (q_loads 2 Try.underlying23 rfl rfl rfl sz23 (by first | omega | with_reducible assumption | (simp only [bys_length, u32s_length, u64s_length, i64s_length, n64s_length, List.length_append]; omega) | (simp only [List.length_set, List.length_replicate, List.length_map, List.length_append, bys_length, u32s_length, u64s_length, i64s_length, List.length_take, List.length_drop, List.length_cons, List.length_nil, *] <;> first | done | omega) | rfl)) ?_) | (refine qv_vg (rfl) (q_loadsAt 2 Try.underlying23 rfl rfl rfl sz23 (by rfl) (by first | omega | with_reducible assumption | (simp only [bys_length, u32s_length, u64s_length, i64s_length, n64s_length, List.length_append]; omega) | (simp only [List.length_set, List.length_replicate, List.length_map, List.length_append, bys_length, u32s_length, u64s_length, i64s_length, List.length_take, List.length_drop, List.length_cons, List.length_nil, *] <;> first | done | omega) | rfl)) ?_)
  refine qv_end ?_
  refine VL.keep (Sub.cons (s := 0) rfl (Sub.cons (s := 1) rfl (Sub.cons (s := 2) rfl (Sub.cons (s := 4) rfl (Sub.cons (s := 3) rfl (Sub.cons (s := 5) rfl (Sub.cons (s := 36) rfl (Sub.cons (s := 37) rfl (Sub.cons (s := 38) rfl (Sub.nil _)))))))))) ?_
  refine vl_vg rfl (q_eqT flat32 rfl rfl (fits_bys' hm1) rfl) rfl ?_
  first | (refine vl_v (q_pickT rfl rfl) rfl ?_) | (refine vl_v (q_pickF rfl rfl) rfl ?_)
  refine vl_v (q_assign rfl) rfl ?_
  refine vl_nil ?_
  refine (qn_n (th_n ?_))
  refine VC_ret ?_
  refine ⟨_, res1 rfl rfl, ?_⟩
  exact rfl
end Go.Proofs.Ytkadnmoephkklaa
