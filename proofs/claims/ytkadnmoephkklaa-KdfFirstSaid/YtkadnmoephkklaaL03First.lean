/- A purpose's key hangs on it alone: the statement KdfFirst. No condition. -/
import Derived.Test.YtkadnmoephkklaaRows
import Derived.Test.YtkadnmoephkklaaC10b
import Derived.Test.YtkadnmoephkklaaA10
namespace Go.Proofs.Ytkadnmoephkklaa
open Go.RowKit Go.PBYtkadnmoephkklaa
set_option linter.unusedVariables false
set_option linter.unusedSimpArgs false
set_option maxRecDepth 10000

theorem mac1_calls (key b : List UInt8) (A B : Option Addr) (ca cb ka m : Nat) (hm : m = b.length) (hka : ka = key.length) (h0 : 0 < key.length) (hk : key.length ≤ 32) (hb : b.length ≤ 1000000) (w : World) (hA : SlAt w A (bys key)) (hB : SlAt w B (bys b)) (hca : key.length ≤ ca) (hcb : b.length ≤ cb) :
    Calls Try.prog 24 #[.slice A ka ca, .slice B m cb] w fun e w' => e = .returned (.tuple #[.agg (bys (macB key b)).toArray, .int .i64 0]) ∧ Kept [] w w' := by
  subst hm
  exact mac_calls key b A B ca cb ka hka h0 hk hb w hA hB hca hcb
set_option maxHeartbeats 4000000 in
theorem first_good (k a b : List UInt8) (hk : k.length = 32) (ha : a.length ≤ 300) (hb : b.length ≤ 300) (w : World) :
    Calls Try.prog 6 #[.agg (bys k).toArray, .string ⟨a.toArray⟩, .string ⟨b.toArray⟩] w fun e w' => e = .returned (.bool true) ∧ Kept [] w w' := by
  have haz : (⟨a.toArray⟩ : ByteArray).size = a.length := by simp [ByteArray.size]
  have hbz : (⟨b.toArray⟩ : ByteArray).size = b.length := by simp [ByteArray.size]
  have hka := keyP_length k a
  have hkb := keyP_length k b
  have hks3 := keysB_length k [a, b, a]
  have hks1 := keysB_length k [b]
  have hal : (a ++ [(1 : UInt8)]).length = a.length + 1 := by simp
  refine enter (n := 73) (R := fun e L => e = .returned (.bool true)) [.agg (bys k).toArray, .string ⟨a.toArray⟩, .string ⟨b.toArray⟩] Try.func6 rfl rfl rfl (St.refl w) ?_ (fun e w' L' h H => ⟨h, H.kept⟩)
  refine VC_seq ?_
  refine VC_region ?_
  refine l_boxA rfl rfl ?_
  intro b3
  refine vl_v (q_assign rfl) rfl ?_
  refine vl_nil ?_
  refine (th_n ?_)
  refine VC_seq ?_
  refine VC_region ?_
  refine vl_v (q_callV Try.func17 rfl rfl rfl (fun w1 H1 => awake3_calls w1)) rfl ?_
  refine vl_v (q_assign rfl) rfl ?_
  refine vl_nil ?_
  refine (th_n ?_)
  refine VC_seq ?_
  refine VC_seq ?_
  refine VC_region ?_
  refine vl_v (q_move rfl) rfl ?_
  refine vl_v (q_lenStr Try.underlying9 rfl) rfl ?_
  refine vl_v (q_false (q_gtr_n (q := 300) Try.underlying3 rfl rfl) (by simp; omega)) rfl ?_
  refine vl_v (q_move rfl) rfl ?_
  refine vl_vg rfl (q_move rfl) rfl ?_
  refine vl_vg rfl (q_lenStr Try.underlying9 rfl) rfl ?_
  refine vl_vg rfl (q_false (q_gtr_n (q := 300) Try.underlying3 rfl rfl) (by simp; omega)) rfl ?_
  first | (refine vl_v (q_pickT rfl rfl) rfl ?_) | (refine vl_v (q_pickF rfl rfl) rfl ?_)
  refine vl_nil ?_
  refine (th_n ?_)
  refine VC_no (rfl) ?_
  refine VC_skip ?_
  refine (th_n ?_)
  refine VC_seq ?_
  refine VC_drawQ 11 1 [[], [], [1], [], [2, 3], [0, 4], [5], [6], [6], [], [9, 7, 5, 0, 1, 2, 3, 4, 6], [8, 10, 0, 1, 2, 3, 4, 5, 6, 7, 9]] [[], [], [1], [], [1, 2, 3], [0, 1, 2, 3, 4], [0, 1, 2, 3, 4, 5], [0, 1, 2, 3, 4, 5, 6], [0, 1, 2, 3, 4, 5, 6], [], [0, 1, 2, 3, 4, 5, 6, 7, 9], [0, 1, 2, 3, 4, 5, 6, 7, 8, 9, 10]] [([], [], [], [0], []), ([], [], [], [0], []), ([1], [], [], [0], [1]), ([], [], [], [0], []), ([1, 2, 3], [], [2], [0], [1, 3]), ([0, 1, 2, 3, 4], [], [], [0], [0, 1, 3, 4]), ([0, 1, 2, 3, 4, 5], [], [], [0], [0, 1, 3, 4, 5]), ([0, 1, 2, 3, 4, 5, 6], [], [], [0], [0, 1, 3, 4, 5, 6]), ([0, 1, 2, 3, 4, 5, 6], [], [], [0], [0, 1, 3, 4, 5, 6]), ([], [], [], [0], []), ([0, 1, 2, 3, 4, 5, 6, 7, 9], [], [9], [0], [0, 1, 3, 4, 5, 6, 7])] [0] [0, 1, 3, 4, 5, 6, 7, 8, 10] rfl rfl (by kernel_rfl) ?_
  refine qp_v (fun xs gs hx => q_slcA Try.underlying23 sz5 rfl rfl rfl rfl (.inl rfl) (by omega) (by omega) (by omega) (by omega) (by (try simp only [Nat.mul_one, Nat.zero_add, Nat.zero_mul, Nat.mul_zero, Nat.add_zero]) <;> rfl)) ?_
  refine qp_v (fun xs gs hx => q_move rfl) ?_
  refine qp_a (fun xs gs hx => q_bytesOf Try.underlying9 Try.underlying24 Try.underlying5 rfl (by omega)) ?_
  refine qp_a (fun xs gs hx => q_litA (cs := bys [UInt8.ofNat 1]) Try.underlying24 in5 (by decide) rfl rfl rfl rfl (by first | with_reducible exact bys_one _ | with_reducible exact u32s_one _ | with_reducible exact u64s_one _ | with_reducible exact i64s_one _ | with_reducible exact n64s_one _ | exact bys_one _ | exact u32s_one _ | exact u64s_one _ | exact i64s_one _ | with_reducible assumption | exact one_all rfl | (refine app_one ?_ ?_ <;> first | exact bys_one _ | (simp; done))) rfl) ?_
  refine qp_append Try.underlying24 Try.underlying24 in5 rfl (by decide) (fun xs gs hx => rfl) (fun xs gs hx => rfl) (fun xs gs hx => (let ⟨b', e'⟩ := hx.2.1 rfl; ⟨_, _, congrArg some e', Reads.rowV 1 e' rfl⟩)) (fun xs gs hx => by first | omega | with_reducible assumption | (simp only [bys_length, u32s_length, u64s_length, i64s_length, n64s_length, List.length_append]; omega) | (simp only [List.length_set, List.length_replicate, List.length_map, List.length_append, bys_length, u32s_length, u64s_length, i64s_length, List.length_take, List.length_drop, List.length_cons, List.length_nil, *] <;> first | done | omega) | rfl) (fun xs gs hx => by first | with_reducible exact bys_one _ | with_reducible exact u32s_one _ | with_reducible exact u64s_one _ | with_reducible exact i64s_one _ | with_reducible exact n64s_one _ | exact bys_one _ | exact u32s_one _ | exact u64s_one _ | exact i64s_one _ | with_reducible assumption | exact one_all rfl | (refine app_one ?_ ?_ <;> first | exact bys_one _ | (simp; done))) (by first | omega | with_reducible assumption | (simp only [bys_length, u32s_length, u64s_length, i64s_length, n64s_length, List.length_append]; omega) | (simp only [List.length_set, List.length_replicate, List.length_map, List.length_append, bys_length, u32s_length, u64s_length, i64s_length, List.length_take, List.length_drop, List.length_cons, List.length_nil, *] <;> first | done | omega) | rfl) (by first | omega | with_reducible assumption | (simp only [bys_length, u32s_length, u64s_length, i64s_length, n64s_length, List.length_append]; omega) | (simp only [List.length_set, List.length_replicate, List.length_map, List.length_append, bys_length, u32s_length, u64s_length, i64s_length, List.length_take, List.length_drop, List.length_cons, List.length_nil, *] <;> first | done | omega) | rfl) ?_
  refine qp_v (f := fun _ _ => .tuple #[.agg (bys (keyP k a)).toArray, .int .i64 0]) (fun xs gs hx => ?_) ?_
  · obtain ⟨A4, c4, e4, h4, h4'⟩ := hx.2.2.1 rfl
    simp only [e4]
    first | (exact q_as (v := .tuple #[.agg (bys (keyP k a)).toArray, .int .i64 0]) (q_callV Try.func24 rfl rfl rfl (fun w1 H1 => mac1_calls k (a ++ [1]) _ _ 32 c4 32 _ hal.symm hk.symm (by omega) (by omega) (by omega) w1 (Reads.blk 0 rfl w1 H1) (by rw [bys_append]; exact Reads.rowV 2 e4 rfl w1 H1) (by omega) (by omega))) (by rw [keyP]))
  refine qp_v (fun xs gs hx => q_move rfl) ?_
  refine qp_v (fun xs gs hx => q_ext rfl rfl) ?_
  refine qp_v (fun xs gs hx => q_ext rfl rfl) ?_
  refine qp_a (fun xs gs hx => q_alloc zr23 rfl) ?_
  refine qp_storeN (fun xs gs hx => rfl) (fun xs gs hx => hx.2.2.2.1 rfl) (fun xs gs hx => rfl) (fun xs gs hx => List.append_nil _) sz23 (fun xs gs hx => by first | omega | with_reducible assumption | (simp only [bys_length, u32s_length, u64s_length, i64s_length, n64s_length, List.length_append]; omega) | (simp only [List.length_set, List.length_replicate, List.length_map, List.length_append, bys_length, u32s_length, u64s_length, i64s_length, List.length_take, List.length_drop, List.length_cons, List.length_nil, *] <;> first | done | omega) | rfl) (fun xs gs hx => by first | with_reducible exact bys_one _ | with_reducible exact u32s_one _ | with_reducible exact u64s_one _ | with_reducible exact i64s_one _ | with_reducible exact n64s_one _ | exact bys_one _ | exact u32s_one _ | exact u64s_one _ | exact i64s_one _ | with_reducible assumption | exact one_all rfl | (refine app_one ?_ ?_ <;> first | exact bys_one _ | (simp; done))) (fun xs gs hx => by first | omega | with_reducible assumption | (simp only [bys_length, u32s_length, u64s_length, i64s_length, n64s_length, List.length_append]; omega) | (simp only [List.length_set, List.length_replicate, List.length_map, List.length_append, bys_length, u32s_length, u64s_length, i64s_length, List.length_take, List.length_drop, List.length_cons, List.length_nil, *] <;> first | done | omega) | rfl) ?_
  refine qp_end ?_
  intro xs gs hx
  obtain ⟨⟨A25, c25, e25, hc25, hm25⟩, ⟨b26, e26⟩, ⟨A27, c27, e27, hc27, hm27⟩, ⟨b8, e8⟩, _, _⟩ := hx
  simp only [selI, ownsA, List.contains_cons, List.contains_nil, Nat.reduceBEq, Nat.reduceAdd, Bool.or_false, Bool.or_true, Bool.false_or, Bool.true_or, mask, nRow, nBlk, nRowT, tupAt_0, tupAt_1, List.append_assoc, List.nil_append, List.append_nil, List.cons_append, List.singleton_append, e25, e26, e27, e8]
  refine VL.keep (Sub.cons (s := 0) rfl (Sub.cons (s := 1) rfl (Sub.cons (s := 2) rfl (Sub.cons (s := 3) rfl (Sub.cons (s := 6) rfl (Sub.cons (s := 7) rfl (Sub.cons (s := 20) rfl (Sub.cons (s := 30) rfl (Sub.cons (s := 8) rfl (Sub.nil _)))))))))) ?_
  refine vl_v (q_assign rfl) rfl ?_
  refine vl_nil ?_
  refine (qn_n (th_n ?_))
  refine VC_seq ?_
  refine VC_region ?_
  first | (refine vl_v (q_loads 0 Try.underlying23 rfl rfl rfl sz23 (by first | omega | with_reducible assumption | (simp only [bys_length, u32s_length, u64s_length, i64s_length, n64s_length, List.length_append]; omega) | (simp only [List.length_set, List.length_replicate, List.length_map, List.length_append, bys_length, u32s_length, u64s_length, i64s_length, List.length_take, List.length_drop, List.length_cons, List.length_nil, *] <;> first | done | omega) | rfl)) rfl ?_) | (refine vl_v (q_loadsAt 0 Try.underlying23 rfl rfl rfl sz23 (by rfl) (by first | omega | with_reducible assumption | (simp only [bys_length, u32s_length, u64s_length, i64s_length, n64s_length, List.length_append]; omega) | (simp only [List.length_set, List.length_replicate, List.length_map, List.length_append, bys_length, u32s_length, u64s_length, i64s_length, List.length_take, List.length_drop, List.length_cons, List.length_nil, *] <;> first | done | omega) | rfl)) rfl ?_)
  refine vl_v (q_move rfl) rfl ?_
  refine vl_v (q_move rfl) rfl ?_
  refine vl_v (q_move rfl) rfl ?_
  refine l_litA (cs := strs [a, b, a]) Try.underlying31 in9 (by decide) rfl rfl rfl rfl (one_all rfl) rfl rfl ?_
  intro b35
  refine l_callR Try.func22 rfl rfl rfl (fun w1 H1 => keys_calls k [a, b, a] _ 3 3 hk rfl (by simp) (by intro x hx; simp only [List.mem_cons, List.not_mem_nil, or_false] at hx; rcases hx with rfl | rfl | rfl <;> omega) w1 (Reads.row 0 rfl w1 H1) (by omega)) rfl ?_
  intro A36 c36 hc36 hm36
  refine vl_v (q_assign rfl) rfl ?_
  refine vl_nil ?_
  refine (th_n ?_)
  refine VC_seq ?_
  refine VC_region ?_
  first | (refine vl_v (q_loads 2 Try.underlying23 rfl rfl rfl sz23 (by first | omega | with_reducible assumption | (simp only [bys_length, u32s_length, u64s_length, i64s_length, n64s_length, List.length_append]; omega) | (simp only [List.length_set, List.length_replicate, List.length_map, List.length_append, bys_length, u32s_length, u64s_length, i64s_length, List.length_take, List.length_drop, List.length_cons, List.length_nil, *] <;> first | done | omega) | rfl)) rfl ?_) | (refine vl_v (q_loadsAt 2 Try.underlying23 rfl rfl rfl sz23 (by rfl) (by first | omega | with_reducible assumption | (simp only [bys_length, u32s_length, u64s_length, i64s_length, n64s_length, List.length_append]; omega) | (simp only [List.length_set, List.length_replicate, List.length_map, List.length_append, bys_length, u32s_length, u64s_length, i64s_length, List.length_take, List.length_drop, List.length_cons, List.length_nil, *] <;> first | done | omega) | rfl)) rfl ?_)
  refine vl_v (q_move rfl) rfl ?_
  refine l_litA (cs := strs [b]) Try.underlying31 in9 (by decide) rfl rfl rfl rfl (one_all rfl) rfl rfl ?_
  intro b39
  refine l_callR Try.func22 rfl rfl rfl (fun w1 H1 => keys_calls k [b] _ 1 1 hk rfl (by simp) (by intro x hx; rw [List.mem_singleton.1 hx]; omega) w1 (Reads.row 0 rfl w1 H1) (by omega)) rfl ?_
  intro A40 c40 hc40 hm40
  refine vl_v (q_assign rfl) rfl ?_
  refine vl_nil ?_
  refine (th_n ?_)
  refine VC_seq ?_
  refine VC_seq ?_
  refine VC_region ?_
  refine vl_v (q_move rfl) rfl ?_
  refine vl_v (q_lenS Try.underlying32 rfl) rfl ?_
  refine vl_v (q_false (q_neq_n (q := 3) Try.underlying3 rfl rfl) (by simp)) rfl ?_
  refine vl_v (q_move rfl) rfl ?_
  refine vl_vg rfl (q_move rfl) rfl ?_
  refine vl_vg rfl (q_lenS Try.underlying32 rfl) rfl ?_
  refine vl_vg rfl (q_false (q_neq_n (q := 1) Try.underlying3 rfl rfl) (by simp)) rfl ?_
  first | (refine vl_v (q_pickT rfl rfl) rfl ?_) | (refine vl_v (q_pickF rfl rfl) rfl ?_)
  refine vl_nil ?_
  refine (th_n ?_)
  refine VC_no (rfl) ?_
  refine VC_skip ?_
  refine (th_n ?_)
  refine VC_seq ?_
  refine VC_rowBlk (by omega) ?_
  intro bM moreM eM
  subst eM
  refine VC_pickL (ks := [2, 0, 1, 3, 4, 5, 6, 7]) (by decide) rfl ?_
  refine VC_rowBlk (by omega) ?_
  intro bL moreL eL
  subst eL
  refine VC_drawV 22 [[], [0], [1], [2, 1], [3, 1], [1], [4, 5, 1], [1, 6], [7, 1], [8], [9, 8], [10, 8], [8], [11, 12, 8], [8, 13], [14, 8], [15], [16, 15], [17, 15], [15], [19, 15], [20, 15], [18, 21, 15], [15, 22], [23, 15, 0, 1, 2, 3, 4, 5, 6, 7, 8, 9, 10, 11, 12, 13, 14, 16, 17, 18, 19, 20, 21, 22]] [[], [0], [0, 1], [0, 1, 2], [0, 1, 2, 3], [0, 1], [0, 1, 2, 3, 4, 5], [0, 1, 2, 3, 4, 5, 6], [0, 1, 2, 3, 4, 5, 6, 7], [0, 1, 2, 3, 4, 5, 6, 7, 8], [0, 1, 2, 3, 4, 5, 6, 7, 8, 9], [0, 1, 2, 3, 4, 5, 6, 7, 8, 9, 10], [0, 1, 2, 3, 4, 5, 6, 7, 8], [0, 1, 2, 3, 4, 5, 6, 7, 8, 9, 10, 11, 12], [0, 1, 2, 3, 4, 5, 6, 7, 8, 9, 10, 11, 12, 13], [0, 1, 2, 3, 4, 5, 6, 7, 8, 9, 10, 11, 12, 13, 14], [0, 1, 2, 3, 4, 5, 6, 7, 8, 9, 10, 11, 12, 13, 14, 15], [0, 1, 2, 3, 4, 5, 6, 7, 8, 9, 10, 11, 12, 13, 14, 15, 16], [0, 1, 2, 3, 4, 5, 6, 7, 8, 9, 10, 11, 12, 13, 14, 15, 16, 17], [0, 1, 2, 3, 4, 5, 6, 7, 8, 9, 10, 11, 12, 13, 14, 15], [0, 1, 2, 3, 4, 5, 6, 7, 8, 9, 10, 11, 12, 13, 14, 15, 19], [0, 1, 2, 3, 4, 5, 6, 7, 8, 9, 10, 11, 12, 13, 14, 15, 19, 20], [0, 1, 2, 3, 4, 5, 6, 7, 8, 9, 10, 11, 12, 13, 14, 15, 16, 17, 18, 19, 20, 21], [0, 1, 2, 3, 4, 5, 6, 7, 8, 9, 10, 11, 12, 13, 14, 15, 16, 17, 18, 19, 20, 21, 22], [0, 1, 2, 3, 4, 5, 6, 7, 8, 9, 10, 11, 12, 13, 14, 15, 16, 17, 18, 19, 20, 21, 22, 23]] rfl (by kernel_rfl) ?_
  refine qv_v (q_move rfl) ?_
  refine qv_v (q_move rfl) ?_
  refine qv_vg (rfl) (q_move rfl) ?_
  refine qv_vg (rfl) (q_idxS0 (m := 0) Try.underlying32 sz23 rfl rfl (by omega) rfl) ?_
  refine qv_vg (rfl) (q_loadsAt (vs := bys (keyP k a)) 0 Try.underlying23 rfl rfl rfl sz23 (by have h := keyPart (k := k) (ps := [a, b, a]) (more := moreL) 0 (by simp) 0 rfl; rw [spreadP] at h; exact h) (by rw [bys_length, hka])) ?_
  first | (refine qv_vg (rfl) (q_loads 7 Try.underlying23 rfl rfl rfl sz23 (by first | omega | with_reducible assumption | (simp only [bys_length, u32s_length, u64s_length, i64s_length, n64s_length, List.length_append]; omega) | (simp only [List.length_set, List.length_replicate, List.length_map, List.length_append, bys_length, u32s_length, u64s_length, i64s_length, List.length_take, List.length_drop, List.length_cons, List.length_nil, *] <;> first | done | omega) | rfl)) ?_) | (refine qv_vg (rfl) (q_loadsAt 7 Try.underlying23 rfl rfl rfl sz23 (by rfl) (by first | omega | with_reducible assumption | (simp only [bys_length, u32s_length, u64s_length, i64s_length, n64s_length, List.length_append]; omega) | (simp only [List.length_set, List.length_replicate, List.length_map, List.length_append, bys_length, u32s_length, u64s_length, i64s_length, List.length_take, List.length_drop, List.length_cons, List.length_nil, *] <;> first | done | omega) | rfl)) ?_)
  refine qv_vg (rfl) (q_eqT flat32 rfl rfl (fits_bys' hka) rfl) ?_
  first | (refine qv_v (q_pickT rfl rfl) ?_) | (refine qv_v (q_pickF rfl rfl) ?_)
  refine qv_v (q_move rfl) ?_
  refine qv_vg (rfl) (q_move rfl) ?_
  refine qv_vg (rfl) (q_idxS0 (m := 2) Try.underlying32 sz23 rfl rfl (by omega) rfl) ?_
  refine qv_vg (rfl) (q_loadsAt (vs := bys (keyP k a)) 0 Try.underlying23 rfl rfl rfl sz23 (by have h := keyPart (k := k) (ps := [a, b, a]) (more := moreL) 2 (by simp) 64 rfl; rw [spreadP] at h; exact h) (by rw [bys_length, hka])) ?_
  first | (refine qv_vg (rfl) (q_loads 7 Try.underlying23 rfl rfl rfl sz23 (by first | omega | with_reducible assumption | (simp only [bys_length, u32s_length, u64s_length, i64s_length, n64s_length, List.length_append]; omega) | (simp only [List.length_set, List.length_replicate, List.length_map, List.length_append, bys_length, u32s_length, u64s_length, i64s_length, List.length_take, List.length_drop, List.length_cons, List.length_nil, *] <;> first | done | omega) | rfl)) ?_) | (refine qv_vg (rfl) (q_loadsAt 7 Try.underlying23 rfl rfl rfl sz23 (by rfl) (by first | omega | with_reducible assumption | (simp only [bys_length, u32s_length, u64s_length, i64s_length, n64s_length, List.length_append]; omega) | (simp only [List.length_set, List.length_replicate, List.length_map, List.length_append, bys_length, u32s_length, u64s_length, i64s_length, List.length_take, List.length_drop, List.length_cons, List.length_nil, *] <;> first | done | omega) | rfl)) ?_)
  refine qv_vg (rfl) (q_eqT flat32 rfl rfl (fits_bys' hka) rfl) ?_
  first | (refine qv_v (q_pickT rfl rfl) ?_) | (refine qv_v (q_pickF rfl rfl) ?_)
  refine qv_v (q_move rfl) ?_
  refine qv_vg (rfl) (q_move rfl) ?_
  refine qv_vg (rfl) (q_idxS0 (m := 1) Try.underlying32 sz23 rfl rfl (by omega) rfl) ?_
  refine qv_vg (rfl) (q_loadsAt (vs := bys (keyP k b)) 0 Try.underlying23 rfl rfl rfl sz23 (by have h := keyPart (k := k) (ps := [a, b, a]) (more := moreL) 1 (by simp) 32 rfl; rw [spreadP] at h; exact h) (by rw [bys_length, hkb])) ?_
  refine qv_vg (rfl) (q_move rfl) ?_
  refine qv_vg (rfl) (q_idxS0 (m := 0) Try.underlying32 sz23 rfl rfl (by omega) rfl) ?_
  refine qv_vg (rfl) (q_loadsAt (vs := bys (keyP k b)) 1 Try.underlying23 rfl rfl rfl sz23 (by have h := keyPart (k := k) (ps := [b]) (more := moreM) 0 (by simp) 0 rfl; rw [spreadP] at h; exact h) (by rw [bys_length, hkb])) ?_
  refine qv_end ?_
  refine VL.keep (Sub.cons (s := 0) rfl (Sub.cons (s := 1) rfl (Sub.cons (s := 2) rfl (Sub.cons (s := 3) rfl (Sub.cons (s := 6) rfl (Sub.cons (s := 7) rfl (Sub.cons (s := 20) rfl (Sub.cons (s := 8) rfl (Sub.cons (s := 10) rfl (Sub.cons (s := 11) rfl (Sub.cons (s := 48) rfl (Sub.cons (s := 64) rfl (Sub.cons (s := 67) rfl (Sub.cons (s := 70) rfl (Sub.nil _))))))))))))))) ?_
  refine vl_vg rfl (q_eqT flat32 rfl rfl (fits_bys' hkb) rfl) rfl ?_
  first | (refine vl_v (q_pickT rfl rfl) rfl ?_) | (refine vl_v (q_pickF rfl rfl) rfl ?_)
  refine vl_v (q_assign rfl) rfl ?_
  refine vl_nil ?_
  refine (qn_n (th_n ?_))
  refine VC_ret ?_
  refine ⟨_, res1 rfl rfl, ?_⟩
  exact rfl
set_option maxHeartbeats 2000000 in
theorem first_long (k a b : List UInt8) (h : ¬ a.length ≤ 300 ∨ ¬ b.length ≤ 300) (w : World) :
    Calls Try.prog 6 #[.agg (bys k).toArray, .string ⟨a.toArray⟩, .string ⟨b.toArray⟩] w fun e w' => e = .returned (.bool true) ∧ Kept [] w w' := by
  have haz : (⟨a.toArray⟩ : ByteArray).size = a.length := by simp [ByteArray.size]
  have hbz : (⟨b.toArray⟩ : ByteArray).size = b.length := by simp [ByteArray.size]
  refine enter (n := 73) (R := fun e L => e = .returned (.bool true)) [.agg (bys k).toArray, .string ⟨a.toArray⟩, .string ⟨b.toArray⟩] Try.func6 rfl rfl rfl (St.refl w) ?_ (fun e w' L' h H => ⟨h, H.kept⟩)
  refine VC_seq ?_
  refine VC_region ?_
  refine l_boxA rfl rfl ?_
  intro b3
  refine vl_v (q_assign rfl) rfl ?_
  refine vl_nil ?_
  refine (th_n ?_)
  refine VC_seq ?_
  refine VC_region ?_
  refine vl_v (q_callV Try.func17 rfl rfl rfl (fun w1 H1 => awake3_calls w1)) rfl ?_
  refine vl_v (q_assign rfl) rfl ?_
  refine vl_nil ?_
  refine (th_n ?_)
  refine VC_seq ?_
  refine VC_seq ?_
  refine VC_region ?_
  refine vl_v (q_move rfl) rfl ?_
  refine vl_v (q_lenStr Try.underlying9 rfl) rfl ?_
  refine vl_v (q_as (v := .bool (decide (300 < a.length))) (q_gtr_n (q := 300) Try.underlying3 rfl rfl) (by rw [haz])) rfl ?_
  by_cases hs15 : 300 < a.length
  · skip
    rw [show decide (300 < a.length) = true from decide_eq_true hs15]
    refine vl_v (q_move rfl) rfl ?_
    refine vl_skip rfl rfl ?_
    refine vl_skip rfl rfl ?_
    refine vl_skip rfl rfl ?_
    first | (refine vl_v (q_pickT rfl rfl) rfl ?_) | (refine vl_v (q_pickF rfl rfl) rfl ?_)
    refine vl_nil ?_
    refine (th_n ?_)
    refine VC_yes (rfl) ?_
    refine VC_seq ?_
    refine VC_region ?_
    refine vl_v (q_move rfl) rfl ?_
    refine vl_v (q_assign rfl) rfl ?_
    refine vl_nil ?_
    refine (th_n ?_)
    refine VC_ret ?_
    refine (th_r ?_)
    refine ⟨_, res1 rfl rfl, ?_⟩
    exact rfl
  · skip
    rw [show decide (300 < a.length) = false from decide_eq_false hs15]
    refine vl_v (q_move rfl) rfl ?_
    refine vl_vg rfl (q_move rfl) rfl ?_
    refine vl_vg rfl (q_lenStr Try.underlying9 rfl) rfl ?_
    refine vl_vg rfl (q_true (q_gtr_n (q := 300) Try.underlying3 rfl rfl) (by rw [hbz]; exact decide_eq_true (by omega))) rfl ?_
    first | (refine vl_v (q_pickT rfl rfl) rfl ?_) | (refine vl_v (q_pickF rfl rfl) rfl ?_)
    refine vl_nil ?_
    refine (th_n ?_)
    refine VC_yes (rfl) ?_
    refine VC_seq ?_
    refine VC_region ?_
    refine vl_v (q_move rfl) rfl ?_
    refine vl_v (q_assign rfl) rfl ?_
    refine vl_nil ?_
    refine (th_n ?_)
    refine VC_ret ?_
    refine (th_r ?_)
    refine ⟨_, res1 rfl rfl, ?_⟩
    exact rfl
theorem kdfFirst.walk (w : World) (v0 : Value) (k : List UInt8) (h0 : KeyV v0 k) (v1 : Value) (a : List UInt8) (h1 : TextV v1 a) (v2 : Value) (b : List UInt8) (h2 : TextV v2 b) :
    Calls Try.prog 6 #[v0, v1, v2] w fun e w' => e = .returned (.bool true) ∧ Kept [] w w' := by
  obtain ⟨rfl, hk⟩ := h0
  obtain rfl := h1
  obtain rfl := h2
  by_cases ha : a.length ≤ 300
  · by_cases hb : b.length ≤ 300
    · exact first_good k a b hk ha hb w
    · exact first_long k a b (.inr hb) w
  · exact first_long k a b (.inl ha) w

namespace kdfFirst
open Go.ChangeShapes Go.WideShapes Go.ChangeAt Go.RowKit
theorem own : ownKnob Try.prog.godebug = none := by kernel_rfl
theorem laidOut : laidOutB Try.prog = true := by kernel_rfl
set_option maxRecDepth 100000 in
theorem lifted (os : Os) (started : os.Started) (H : Type) (enc : TypeId × Value → H) :
    ReturnsInHanded {} Try.checked os 6 .any (Rows.kdfFirstSpec.pre6 enc Try.prog Try.f6 Rows.kdfFirstRow.domain false) (Rows.kdfFirstSpec.post enc Try.prog Try.f6 false true false false) := by
  refine returnsInHanded_of_change (C := Try.checked) own started (by kernel_rfl) Try.func6
    (ChangeSpec.witness6 (enc := enc) (C := Try.checked) false ⟨#[], #[(.agg (List.replicate 32 (Value.int .u8 0)).toArray), .string ⟨#[]⟩, .string ⟨#[]⟩], []⟩ 8 (by kernel_rfl) (by kernel_rfl) (by kernel_rfl) (by kernel_rfl)) ?_
  intro W base args ds gs before hval0 hW hcnd _
  have hval : ∀ (j : Nat) t v, Try.f6.params[j]? = some t → args[j]? = some v → Value.okWide Try.prog W .any base t v := hval0
  have hW' := hW
  obtain ⟨p, q, hA0, hV, rfl, hfz, hnd⟩ := hW
  have hA : DataW.TrodAll enc Try.prog W 0 (fun _ => true) true Try.f6.params.toList args.toList ds p := hA0
  rw [Try.params6] at hA hval
  obtain ⟨v0, vs0, d0, ds0, p0, q0, hargs, rfl, rfl, h0, r0⟩ := trodAll_cons hA
  obtain ⟨v1, vs1, d1, ds1, p1, q1, rfl, rfl, rfl, h1, r1⟩ := trodAll_cons r0
  obtain ⟨v2, vs2, d2, ds2, p2, q2, rfl, rfl, rfl, h2, r2⟩ := trodAll_cons r1
  obtain ⟨rfl, rfl, rfl⟩ := trodAll_nil r2
  obtain rfl : args = #[v0, v1, v2] := by cases args; simp_all
  obtain ⟨rfl, rfl⟩ := trodVars_none hV
  have k0 := h0
  have lt0 : ∀ x ∈ p0, x.block < W.heap.size := by obtain ⟨m, hm⟩ := k0; exact DataW.trod_lt m _ _ _ hm
  have k1 := h1
  have lt1 : ∀ x ∈ p1, x.block < W.heap.size := by obtain ⟨m, hm⟩ := k1; exact DataW.trod_lt m _ _ _ hm
  have k2 := h2
  have lt2 : ∀ x ∈ p2, x.block < W.heap.size := by obtain ⟨m, hm⟩ := k2; exact DataW.trod_lt m _ _ _ hm
  obtain ⟨cs0, e0, f0⟩ := open_flat (ks := (List.replicate 32 .u8)) 6 (by kernel_rfl) (by kernel_rfl) (hval 0 23 v0 rfl rfl) h0
  subst e0
  obtain ⟨l0, g0⟩ := open_key f0
  obtain ⟨l1, g1⟩ := (open_text Try.underlying9) (hval 1 9 v1 rfl rfl) h1
  obtain ⟨l2, g2⟩ := (open_text Try.underlying9) (hval 2 9 v2 rfl rfl) h2
  clear hA0 hval0
  refine (kdfFirst.walk W _ l0 g0 v1 l1 g1 v2 l2 g2).mono fun e W' ⟨he, hK⟩ => ?_
  subst he
  have bel := hK.below
  exact ⟨_, rfl, _, _, _, [], _, [], hW', trodAll_mk1 (shut_bool Try.underlying4 _), (trodAll_cons_mk (Below.trod laidOut (by kernel_rfl) (of_decide_eq_true (by kernel_rfl)) k0 bel lt0) (trodAll_cons_mk (Below.trod laidOut (by kernel_rfl) (of_decide_eq_true (by kernel_rfl)) k1 bel lt1) (trodAll_cons_mk (Below.trod laidOut (by kernel_rfl) (of_decide_eq_true (by kernel_rfl)) k2 bel lt2) trodAll_mk0))), rfl, bel.frame _, fun h => by cases h⟩
theorem over : Rows.kdfFirstRow.holds Try.pinned (OpenSpec.ofChange Rows.kdfFirstSpec) :=
  OpenClaim.holds_of_wide 6 Try.f6 rfl rfl rfl rfl rfl rfl rfl ⟨rfl, rfl, rfl, rfl, rfl⟩ rfl rfl rfl rfl rfl (by kernel_rfl) Try.func6 (by kernel_rfl)
    (of_decide_eq_true (by kernel_rfl)) (by unfold Func.isWrapper; first | (rw [if_pos (by decide +kernel)]; kernel_rfl) | (rw [if_neg (by decide +kernel)]; exact ⟨rfl, rfl⟩))
    (fun os started H enc _ => lifted os started H enc)
theorem proved : Rows.KdfFirstSaid := over
end kdfFirst
/-- The row. -/
theorem kdfFirst_holds : Rows.KdfFirstSaid := kdfFirst.proved
#print axioms kdfFirst_holds
end Go.Proofs.Ytkadnmoephkklaa
