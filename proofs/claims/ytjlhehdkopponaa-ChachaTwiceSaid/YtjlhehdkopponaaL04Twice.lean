/- Turned twice bytes are as they were: the statement ChachaTwice. No condition. -/
import Derived.Test.YtjlhehdkopponaaRows
import Derived.Test.YtjlhehdkopponaaJ04
namespace Go.Proofs.Ytjlhehdkopponaa
open Go.RowKit Go.PBYtjlhehdkopponaa
set_option linter.unusedVariables false
set_option linter.unusedSimpArgs false
set_option maxRecDepth 10000

set_option maxHeartbeats 1000000 in
theorem chachaTwice.walk (w : World) (v0 : Value) (j : Job) (h0 : JobV v0 j) (v1 : Value) (b : List UInt8) (h3 : BsArg w v1 b) :
    Calls Try.prog 5 #[v0, v1] w fun e w' => e = .returned (.bool true) ∧ Kept [] w w' := by
  obtain ⟨rfl, h1, h2⟩ := h0
  obtain ⟨A, c, rfl, hc, _, hA⟩ := h3
  have hl := jobC_length h1 h2
  have htl := turnB_length j.1 j.2.1 j.2.2 b
  refine enter (n := 53) (R := fun e L => e = .returned (.bool true)) [.agg (jobC j).toArray, .slice A b.length c] Try.func5 rfl rfl rfl (St.refl w) ?_ (fun e w' L' h H => ⟨h, H.kept⟩)
  refine VC_seq ?_
  refine VC_region ?_
  refine l_boxA rfl rfl ?_
  intro b2
  refine vl_v (q_assign rfl) rfl ?_
  refine vl_nil ?_
  refine (th_n ?_)
  refine VC_seq ?_
  refine VC_region ?_
  refine vl_v (q_callV Try.func8 rfl rfl rfl (fun w1 H1 => awake_calls w1)) rfl ?_
  refine vl_v (q_assign rfl) rfl ?_
  refine vl_nil ?_
  refine (th_n ?_)
  refine VC_seq ?_
  refine VC_seq ?_
  refine VC_region ?_
  refine vl_v (q_move rfl) rfl ?_
  refine vl_v (q_lenS Try.underlying32 rfl) rfl ?_
  first | (refine vl_v (q_gtr_n (q := 1000) Try.underlying3 rfl rfl) rfl ?_) | (refine vl_v (q_gtr_k Try.underlying3 rfl rfl) rfl ?_)
  refine vl_nil ?_
  refine (th_n ?_)
  refine VC_cond rfl (fun ht11 => ?_) (fun ht11 => ?_)
  · skip
    have ht11 := of_decide_eq_true ht11
    refine VC_seq ?_
    refine VC_region ?_
    refine vl_v (q_move rfl) rfl ?_
    refine vl_v (q_assign rfl) rfl ?_
    refine vl_nil ?_
    refine (th_n ?_)
    refine VC_ret ?_
    refine (th_r ?_)
    refine ⟨_, res1 rfl rfl, ?_⟩
    exact rfl
  · skip
    have ht11 := of_decide_eq_false ht11
    refine VC_skip ?_
    refine (th_n ?_)
    refine VC_seq ?_
    refine VC_region ?_
    refine l_litA (cs := bys []) Try.underlying32 in5 (by decide) rfl rfl rfl rfl (by first | exact bys_one _ | exact u32s_one _ | exact u64s_one _ | exact i64s_one _ | with_reducible assumption | exact one_all rfl | (refine app_one ?_ ?_ <;> first | exact bys_one _ | (simp; done))) rfl rfl ?_
    intro b13
    refine vl_v (q_move rfl) rfl ?_
    refine l_append 0 rfl rfl rfl Try.underlying32 Try.underlying32 in5 rfl (by decide) (Reads.old hA) (by first | omega | with_reducible assumption | (simp only [List.length_set, List.length_replicate, List.length_map, List.length_append, bys_length, u32s_length, u64s_length, i64s_length, List.length_take, List.length_drop, List.length_cons, List.length_nil, *] <;> first | done | omega) | rfl) (by first | exact bys_one _ | exact u32s_one _ | exact u64s_one _ | exact i64s_one _ | with_reducible assumption | exact one_all rfl | (refine app_one ?_ ?_ <;> first | exact bys_one _ | (simp; done))) (by first | omega | with_reducible assumption | (simp only [List.length_set, List.length_replicate, List.length_map, List.length_append, bys_length, u32s_length, u64s_length, i64s_length, List.length_take, List.length_drop, List.length_cons, List.length_nil, *] <;> first | done | omega) | rfl) (by first | omega | with_reducible assumption | (simp only [List.length_set, List.length_replicate, List.length_map, List.length_append, bys_length, u32s_length, u64s_length, i64s_length, List.length_take, List.length_drop, List.length_cons, List.length_nil, *] <;> first | done | omega) | rfl) rfl ?_
    intro A15 c15 hc15
    simp only [List.set_cons_zero, List.set_cons_succ, ← bys_append, ← u32s_append, ← u64s_append, ← i64s_append, List.nil_append, Nat.zero_add]
    refine vl_v (q_assign rfl) rfl ?_
    refine vl_nil ?_
    refine (th_n ?_)
    refine VC_seq ?_
    refine VC_region ?_
    refine vl_v (q_fldA fo27_0 (by decide) rfl rfl) rfl ?_
    first | (refine vl_v (q_loads 1 Try.underlying23 rfl rfl rfl sz23 (by first | omega | with_reducible assumption | (simp only [List.length_set, List.length_replicate, List.length_map, List.length_append, bys_length, u32s_length, u64s_length, i64s_length, List.length_take, List.length_drop, List.length_cons, List.length_nil, *] <;> first | done | omega) | rfl)) rfl ?_) | (refine vl_v (q_loadsAt 1 Try.underlying23 rfl rfl rfl sz23 (by first | exact job0 h1 | exact job1 h1 h2) (by first | omega | with_reducible assumption | (simp only [List.length_set, List.length_replicate, List.length_map, List.length_append, bys_length, u32s_length, u64s_length, i64s_length, List.length_take, List.length_drop, List.length_cons, List.length_nil, *] <;> first | done | omega) | rfl)) rfl ?_)
    refine vl_v (q_fldA fo27_1 (by decide) rfl rfl) rfl ?_
    first | (refine vl_v (q_loads 1 Try.underlying24 rfl rfl rfl sz24 (by first | omega | with_reducible assumption | (simp only [List.length_set, List.length_replicate, List.length_map, List.length_append, bys_length, u32s_length, u64s_length, i64s_length, List.length_take, List.length_drop, List.length_cons, List.length_nil, *] <;> first | done | omega) | rfl)) rfl ?_) | (refine vl_v (q_loadsAt 1 Try.underlying24 rfl rfl rfl sz24 (by first | exact job0 h1 | exact job1 h1 h2) (by first | omega | with_reducible assumption | (simp only [List.length_set, List.length_replicate, List.length_map, List.length_append, bys_length, u32s_length, u64s_length, i64s_length, List.length_take, List.length_drop, List.length_cons, List.length_nil, *] <;> first | done | omega) | rfl)) rfl ?_)
    refine vl_v (q_fldA fo27_2 (by decide) rfl rfl) rfl ?_
    refine vl_v (q_load 1 Try.underlying25 rfl rfl rfl (job2 h1 h2)) rfl ?_
    refine vl_v (q_move rfl) rfl ?_
    refine l_callR Try.func11 rfl rfl rfl (fun w1 H1 => turn_calls j.1 j.2.1 j.2.2 b A15 c15 h1 h2 w1 (Reads.row 0 rfl w1 H1) (by omega) (by omega)) rfl ?_
    intro A23 c23 hc23 hm23
    refine vl_v (q_assign rfl) rfl ?_
    refine vl_nil ?_
    refine (th_n ?_)
    refine VC_seq ?_
    refine VC_drawM 27 [[], [0], [1], [2, 1], [1], [4, 1], [3, 5, 1], [1, 6], [7, 1], [8], [9, 8], [8], [11, 8], [10, 12, 8], [8, 13], [14, 8], [15], [16, 15], [15], [18, 15], [15], [20, 15], [15], [17, 19, 21, 22, 15], [23, 15], [15], [25, 15], [24, 26, 15], [15, 27], [28, 23, 0, 1, 2, 3, 4, 5, 6, 7, 8, 9, 10, 11, 12, 13, 14, 15, 16, 17, 18, 19, 20, 21, 22, 24, 25, 26, 27]] [[], [0], [0, 1], [0, 1, 2], [0, 1], [0, 1, 4], [0, 1, 2, 3, 4, 5], [0, 1, 2, 3, 4, 5, 6], [0, 1, 2, 3, 4, 5, 6, 7], [0, 1, 2, 3, 4, 5, 6, 7, 8], [0, 1, 2, 3, 4, 5, 6, 7, 8, 9], [0, 1, 2, 3, 4, 5, 6, 7, 8], [0, 1, 2, 3, 4, 5, 6, 7, 8, 11], [0, 1, 2, 3, 4, 5, 6, 7, 8, 9, 10, 11, 12], [0, 1, 2, 3, 4, 5, 6, 7, 8, 9, 10, 11, 12, 13], [0, 1, 2, 3, 4, 5, 6, 7, 8, 9, 10, 11, 12, 13, 14], [0, 1, 2, 3, 4, 5, 6, 7, 8, 9, 10, 11, 12, 13, 14, 15], [0, 1, 2, 3, 4, 5, 6, 7, 8, 9, 10, 11, 12, 13, 14, 15, 16], [0, 1, 2, 3, 4, 5, 6, 7, 8, 9, 10, 11, 12, 13, 14, 15], [0, 1, 2, 3, 4, 5, 6, 7, 8, 9, 10, 11, 12, 13, 14, 15, 18], [0, 1, 2, 3, 4, 5, 6, 7, 8, 9, 10, 11, 12, 13, 14, 15], [0, 1, 2, 3, 4, 5, 6, 7, 8, 9, 10, 11, 12, 13, 14, 15, 20], [0, 1, 2, 3, 4, 5, 6, 7, 8, 9, 10, 11, 12, 13, 14, 15], [0, 1, 2, 3, 4, 5, 6, 7, 8, 9, 10, 11, 12, 13, 14, 15, 16, 17, 18, 19, 20, 21, 22], [0, 1, 2, 3, 4, 5, 6, 7, 8, 9, 10, 11, 12, 13, 14, 15, 16, 17, 18, 19, 20, 21, 22, 23], [0, 1, 2, 3, 4, 5, 6, 7, 8, 9, 10, 11, 12, 13, 14, 15], [0, 1, 2, 3, 4, 5, 6, 7, 8, 9, 10, 11, 12, 13, 14, 15, 25], [0, 1, 2, 3, 4, 5, 6, 7, 8, 9, 10, 11, 12, 13, 14, 15, 16, 17, 18, 19, 20, 21, 22, 23, 24, 25, 26], [0, 1, 2, 3, 4, 5, 6, 7, 8, 9, 10, 11, 12, 13, 14, 15, 16, 17, 18, 19, 20, 21, 22, 23, 24, 25, 26, 27], [0, 1, 2, 3, 4, 5, 6, 7, 8, 9, 10, 11, 12, 13, 14, 15, 16, 17, 18, 19, 20, 21, 22, 23, 24, 25, 26, 27, 28]] rfl (by kernel_rfl) ?_
    refine qm_v (fun xs hx => q_move rfl) ?_
    refine qm_v (fun xs hx => q_move rfl) ?_
    refine qm_vg (fun xs => rfl) (fun xs hx => q_move rfl) ?_
    refine qm_vg (fun xs => rfl) (fun xs hx => q_lenS Try.underlying32 rfl) ?_
    refine qm_vg (fun xs => rfl) (fun xs hx => q_move rfl) ?_
    refine qm_vg (fun xs => rfl) (fun xs hx => q_lenS Try.underlying32 rfl) ?_
    refine qm_vg (fun xs => rfl) (fun xs hx => q_true (q_eql_n Try.underlying3 rfl rfl) (decide_eq_true rfl)) ?_
    first | (refine qm_v (fun xs hx => q_pickT rfl rfl) ?_) | (refine qm_v (fun xs hx => q_pickF rfl rfl) ?_)
    refine qm_v (fun xs hx => q_move rfl) ?_
    refine qm_vg (fun xs => rfl) (fun xs hx => q_move rfl) ?_
    refine qm_vg (fun xs => rfl) (fun xs hx => q_str Try.underlying32 Try.underlying5 Try.underlying9 rfl (Reads.row 1 rfl) (by first | omega | with_reducible assumption | (simp only [List.length_set, List.length_replicate, List.length_map, List.length_append, bys_length, u32s_length, u64s_length, i64s_length, List.length_take, List.length_drop, List.length_cons, List.length_nil, *] <;> first | done | omega) | rfl)) ?_
    refine qm_vg (fun xs => rfl) (fun xs hx => q_move rfl) ?_
    refine qm_vg (fun xs => rfl) (fun xs hx => q_str Try.underlying32 Try.underlying5 Try.underlying9 rfl (Reads.old hA) (by first | omega | with_reducible assumption | (simp only [List.length_set, List.length_replicate, List.length_map, List.length_append, bys_length, u32s_length, u64s_length, i64s_length, List.length_take, List.length_drop, List.length_cons, List.length_nil, *] <;> first | done | omega) | rfl)) ?_
    refine qm_vg (fun xs => rfl) (fun xs hx => q_true (q_eqStr Try.underlying9 rfl rfl) (decide_eq_true rfl)) ?_
    first | (refine qm_v (fun xs hx => q_pickT rfl rfl) ?_) | (refine qm_v (fun xs hx => q_pickF rfl rfl) ?_)
    refine qm_v (fun xs hx => q_move rfl) ?_
    refine qm_vg (fun xs => rfl) (fun xs hx => q_fldA fo27_0 (by decide) rfl rfl) ?_
    first | (refine qm_vg (fun xs => rfl) (fun xs hx => q_loads 2 Try.underlying23 rfl rfl rfl sz23 (by first | omega | with_reducible assumption | (simp only [List.length_set, List.length_replicate, List.length_map, List.length_append, bys_length, u32s_length, u64s_length, i64s_length, List.length_take, List.length_drop, List.length_cons, List.length_nil, *] <;> first | done | omega) | rfl)) ?_) | (refine qm_vg (fun xs => rfl) (fun xs hx => q_loadsAt 2 Try.underlying23 rfl rfl rfl sz23 (by first | exact job0 h1 | exact job1 h1 h2) (by first | omega | with_reducible assumption | (simp only [List.length_set, List.length_replicate, List.length_map, List.length_append, bys_length, u32s_length, u64s_length, i64s_length, List.length_take, List.length_drop, List.length_cons, List.length_nil, *] <;> first | done | omega) | rfl)) ?_)
    refine qm_vg (fun xs => rfl) (fun xs hx => q_fldA fo27_1 (by decide) rfl rfl) ?_
    first | (refine qm_vg (fun xs => rfl) (fun xs hx => q_loads 2 Try.underlying24 rfl rfl rfl sz24 (by first | omega | with_reducible assumption | (simp only [List.length_set, List.length_replicate, List.length_map, List.length_append, bys_length, u32s_length, u64s_length, i64s_length, List.length_take, List.length_drop, List.length_cons, List.length_nil, *] <;> first | done | omega) | rfl)) ?_) | (refine qm_vg (fun xs => rfl) (fun xs hx => q_loadsAt 2 Try.underlying24 rfl rfl rfl sz24 (by first | exact job0 h1 | exact job1 h1 h2) (by first | omega | with_reducible assumption | (simp only [List.length_set, List.length_replicate, List.length_map, List.length_append, bys_length, u32s_length, u64s_length, i64s_length, List.length_take, List.length_drop, List.length_cons, List.length_nil, *] <;> first | done | omega) | rfl)) ?_)
    refine qm_vg (fun xs => rfl) (fun xs hx => q_fldA fo27_2 (by decide) rfl rfl) ?_
    refine qm_vg (fun xs => rfl) (fun xs hx => q_load 2 Try.underlying25 rfl rfl rfl (job2 h1 h2)) ?_
    refine qm_vg (fun xs => rfl) (fun xs hx => q_move rfl) ?_
    refine qm_ag (fun xs => rfl) (fun xs hx => q_callR Try.func11 rfl rfl rfl (fun w1 H1 => by have h := turn_calls j.1 j.2.1 j.2.2 (turnB j.1 j.2.1 j.2.2 b) A23 c23 h1 h2 w1 (Reads.row 0 rfl w1 H1) (by rw [htl]; omega) (by rw [htl]; omega); rw [turn_twice, htl] at h; exact h)) ?_
    refine qm_vg (fun xs => rfl) (fun xs hx => q_strR 0 Try.underlying32 Try.underlying5 Try.underlying9 rfl rfl) ?_
    refine qm_vg (fun xs => rfl) (fun xs hx => q_move rfl) ?_
    refine qm_vg (fun xs => rfl) (fun xs hx => q_str Try.underlying32 Try.underlying5 Try.underlying9 rfl (Reads.old hA) (by first | omega | with_reducible assumption | (simp only [List.length_set, List.length_replicate, List.length_map, List.length_append, bys_length, u32s_length, u64s_length, i64s_length, List.length_take, List.length_drop, List.length_cons, List.length_nil, *] <;> first | done | omega) | rfl)) ?_
    refine qm_end ?_
    intro xs hx
    obtain ⟨⟨A47, c47, e47, hc47, hm47⟩, _⟩ := hx
    simp only [e47]
    simp only [resT, nRow, nRowT, tupAt_0, List.append_assoc, List.nil_append, List.append_nil, List.cons_append, List.singleton_append, e47]
    refine VL.keep (Sub.cons (s := 0) rfl (Sub.cons (s := 1) rfl (Sub.cons (s := 2) rfl (Sub.cons (s := 4) rfl (Sub.cons (s := 5) rfl (Sub.cons (s := 11) rfl (Sub.cons (s := 6) rfl (Sub.cons (s := 7) rfl (Sub.cons (s := 39) rfl (Sub.cons (s := 48) rfl (Sub.cons (s := 50) rfl (Sub.nil _)))))))))))) ?_
    refine vl_vg rfl (q_true (q_eqStr Try.underlying9 rfl rfl) (decide_eq_true rfl)) rfl ?_
    first | (refine vl_v (q_pickT rfl rfl) rfl ?_) | (refine vl_v (q_pickF rfl rfl) rfl ?_)
    refine vl_v (q_assign rfl) rfl ?_
    refine vl_nil ?_
    refine (qn_n (th_n ?_))
    refine VC_ret ?_
    refine ⟨_, res1 rfl rfl, ?_⟩
    exact rfl

namespace chachaTwice
open Go.ChangeShapes Go.WideShapes Go.ChangeAt Go.RowKit
theorem own : ownKnob Try.prog.godebug = none := by kernel_rfl
theorem laidOut : laidOutB Try.prog = true := by kernel_rfl
set_option maxRecDepth 100000 in
theorem lifted (os : Os) (started : os.Started) (H : Type) (enc : TypeId × Value → H) :
    ReturnsInHanded {} Try.checked os 5 .any (Rows.chachaTwiceSpec.pre6 enc Try.prog Try.f5 Rows.chachaTwiceRow.domain false) (Rows.chachaTwiceSpec.post enc Try.prog Try.f5 false true false false) := by
  refine returnsInHanded_of_change (C := Try.checked) own started (by kernel_rfl) Try.func5
    (ChangeSpec.witness6 (enc := enc) (C := Try.checked) false ⟨#[], #[(.agg (List.replicate 44 (Value.int .u8 0) ++ [Value.int .u32 0]).toArray), .slice none 0 0], []⟩ 8 (by kernel_rfl) (by kernel_rfl) (by kernel_rfl) (by kernel_rfl)) ?_
  intro W base args ds gs before hval0 hW hcnd _
  have hval : ∀ (j : Nat) t v, Try.f5.params[j]? = some t → args[j]? = some v → Value.okWide Try.prog W .any base t v := hval0
  have hW' := hW
  obtain ⟨p, q, hA0, hV, rfl, hfz, hnd⟩ := hW
  have hA : DataW.TrodAll enc Try.prog W 0 (fun _ => true) true Try.f5.params.toList args.toList ds p := hA0
  rw [Try.params5] at hA hval
  obtain ⟨v0, vs0, d0, ds0, p0, q0, hargs, rfl, rfl, h0, r0⟩ := trodAll_cons hA
  obtain ⟨v1, vs1, d1, ds1, p1, q1, rfl, rfl, rfl, h1, r1⟩ := trodAll_cons r0
  obtain ⟨rfl, rfl, rfl⟩ := trodAll_nil r1
  obtain rfl : args = #[v0, v1] := by cases args; simp_all
  obtain ⟨rfl, rfl⟩ := trodVars_none hV
  have k0 := h0
  have lt0 : ∀ x ∈ p0, x.block < W.heap.size := by obtain ⟨m, hm⟩ := k0; exact DataW.trod_lt m _ _ _ hm
  have k1 := h1
  have lt1 : ∀ x ∈ p1, x.block < W.heap.size := by obtain ⟨m, hm⟩ := k1; exact DataW.trod_lt m _ _ _ hm
  obtain ⟨cs0, e0, f0⟩ := open_flat (ks := jobK) 6 (by kernel_rfl) (by kernel_rfl) (hval 0 27 v0 rfl rfl) h0
  subst e0
  obtain ⟨l0, g0⟩ := open_job f0
  obtain ⟨l1, g1⟩ := open_bytes Try.underlying32 Try.underlying5 (by kernel_rfl) (hval 1 32 v1 rfl rfl) h1
  clear hA0 hval0
  refine (chachaTwice.walk W _ l0 g0 v1 l1 g1).mono fun e W' ⟨he, hK⟩ => ?_
  subst he
  have bel := hK.below
  exact ⟨_, rfl, _, _, _, [], _, [], hW', trodAll_mk1 (shut_bool Try.underlying4 _), (trodAll_cons_mk (Below.trod laidOut (by kernel_rfl) (of_decide_eq_true (by kernel_rfl)) k0 bel lt0) (trodAll_cons_mk (Below.trod laidOut (by kernel_rfl) (of_decide_eq_true (by kernel_rfl)) k1 bel lt1) trodAll_mk0)), rfl, bel.frame _, fun h => by cases h⟩
theorem over : Rows.chachaTwiceRow.holds Try.pinned (OpenSpec.ofChange Rows.chachaTwiceSpec) :=
  OpenClaim.holds_of_wide 5 Try.f5 rfl rfl rfl rfl rfl rfl rfl ⟨rfl, rfl, rfl, rfl, rfl⟩ rfl rfl rfl rfl rfl (by kernel_rfl) Try.func5 (by kernel_rfl)
    (of_decide_eq_true (by kernel_rfl)) (by unfold Func.isWrapper; first | (rw [if_pos (by decide +kernel)]; kernel_rfl) | (rw [if_neg (by decide +kernel)]; exact ⟨rfl, rfl⟩))
    (fun os started H enc _ => lifted os started H enc)
theorem proved : Rows.ChachaTwiceSaid := over
end chachaTwice
/-- The row. -/
theorem chachaTwice_holds : Rows.ChachaTwiceSaid := chachaTwice.proved
#print axioms chachaTwice_holds
end Go.Proofs.Ytjlhehdkopponaa
