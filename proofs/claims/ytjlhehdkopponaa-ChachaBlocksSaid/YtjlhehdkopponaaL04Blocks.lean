/- Any block is that of the document: the statement ChachaBlocks. No condition. -/
import Derived.Test.YtjlhehdkopponaaRows
import Derived.Test.YtjlhehdkopponaaJ04
namespace Go.Proofs.Ytjlhehdkopponaa
open Go.RowKit Go.PBYtjlhehdkopponaa
set_option linter.unusedVariables false
set_option linter.unusedSimpArgs false
set_option maxRecDepth 10000

theorem chachaBlocks.walk (w : World) (v0 : Value) (j : Job) (h0 : JobV v0 j) :
    Calls Try.prog 3 #[v0] w fun e w' => e = .returned (.bool true) ∧ Kept [] w w' := by
  obtain ⟨rfl, h1, h2⟩ := h0
  have hl := jobC_length h1 h2
  have hb := block_length j.1 j.2.1 j.2.2
  refine enter (n := 23) (R := fun e L => e = .returned (.bool true)) [.agg (jobC j).toArray] Try.func3 rfl rfl rfl (St.refl w) ?_ (fun e w' L' h H => ⟨h, H.kept⟩)
  refine VC_seq ?_
  refine VC_region ?_
  refine l_boxA rfl rfl ?_
  intro b1
  refine vl_v (q_assign rfl) rfl ?_
  refine vl_nil ?_
  refine (th_n ?_)
  refine VC_seq ?_
  refine VC_region ?_
  refine vl_v (q_callV Try.func8 rfl rfl rfl (fun w1 H1 => awake_calls w1)) rfl ?_
  refine vl_v (q_assign rfl) rfl ?_
  refine vl_nil ?_
  refine (th_n ?_)
  refine VC_seq ?_
  refine VC_drawV 15 [[], [0], [1], [2, 1], [1], [4, 1], [1], [6, 1], [3, 5, 7, 1], [1], [9, 1], [1], [11, 1], [1], [13, 1], [10, 12, 14, 8, 1], [8, 15, 1], [1, 16], [17, 15, 0, 1, 2, 3, 4, 5, 6, 7, 8, 9, 10, 11, 12, 13, 14, 16]] [[], [0], [0, 1], [0, 1, 2], [0, 1], [0, 1, 4], [0, 1], [0, 1, 6], [0, 1, 2, 3, 4, 5, 6, 7], [0, 1], [0, 1, 9], [0, 1], [0, 1, 11], [0, 1], [0, 1, 13], [0, 1, 2, 3, 4, 5, 6, 7, 8, 9, 10, 11, 12, 13, 14], [0, 1, 2, 3, 4, 5, 6, 7, 8, 9, 10, 11, 12, 13, 14, 15], [0, 1, 2, 3, 4, 5, 6, 7, 8, 9, 10, 11, 12, 13, 14, 15, 16], [0, 1, 2, 3, 4, 5, 6, 7, 8, 9, 10, 11, 12, 13, 14, 15, 16, 17]] rfl (by kernel_rfl) ?_
  refine qv_v (q_move rfl) ?_
  refine qv_v (q_move rfl) ?_
  refine qv_vg (rfl) (q_fldA fo27_0 (by decide) rfl rfl) ?_
  first | (refine qv_vg (rfl) (q_loads 0 Try.underlying23 rfl rfl rfl sz23 (by first | omega | with_reducible assumption | (simp only [List.length_set, List.length_replicate, List.length_map, List.length_append, bys_length, u32s_length, u64s_length, i64s_length, List.length_take, List.length_drop, List.length_cons, List.length_nil, *] <;> first | done | omega) | rfl)) ?_) | (refine qv_vg (rfl) (q_loadsAt 0 Try.underlying23 rfl rfl rfl sz23 (by first | exact job0 h1 | exact job1 h1 h2) (by first | omega | with_reducible assumption | (simp only [List.length_set, List.length_replicate, List.length_map, List.length_append, bys_length, u32s_length, u64s_length, i64s_length, List.length_take, List.length_drop, List.length_cons, List.length_nil, *] <;> first | done | omega) | rfl)) ?_)
  refine qv_vg (rfl) (q_fldA fo27_1 (by decide) rfl rfl) ?_
  first | (refine qv_vg (rfl) (q_loads 0 Try.underlying24 rfl rfl rfl sz24 (by first | omega | with_reducible assumption | (simp only [List.length_set, List.length_replicate, List.length_map, List.length_append, bys_length, u32s_length, u64s_length, i64s_length, List.length_take, List.length_drop, List.length_cons, List.length_nil, *] <;> first | done | omega) | rfl)) ?_) | (refine qv_vg (rfl) (q_loadsAt 0 Try.underlying24 rfl rfl rfl sz24 (by first | exact job0 h1 | exact job1 h1 h2) (by first | omega | with_reducible assumption | (simp only [List.length_set, List.length_replicate, List.length_map, List.length_append, bys_length, u32s_length, u64s_length, i64s_length, List.length_take, List.length_drop, List.length_cons, List.length_nil, *] <;> first | done | omega) | rfl)) ?_)
  refine qv_vg (rfl) (q_fldA fo27_2 (by decide) rfl rfl) ?_
  refine qv_vg (rfl) (q_load 0 Try.underlying25 rfl rfl rfl (job2 h1 h2)) ?_
  refine qv_vg (rfl) (q_callV Try.func9 rfl rfl rfl (fun w1 H1 => block_calls j.1 j.2.1 j.2.2 h1 h2 w1)) ?_
  refine qv_vg (rfl) (q_fldA fo27_0 (by decide) rfl rfl) ?_
  first | (refine qv_vg (rfl) (q_loads 0 Try.underlying23 rfl rfl rfl sz23 (by first | omega | with_reducible assumption | (simp only [List.length_set, List.length_replicate, List.length_map, List.length_append, bys_length, u32s_length, u64s_length, i64s_length, List.length_take, List.length_drop, List.length_cons, List.length_nil, *] <;> first | done | omega) | rfl)) ?_) | (refine qv_vg (rfl) (q_loadsAt 0 Try.underlying23 rfl rfl rfl sz23 (by first | exact job0 h1 | exact job1 h1 h2) (by first | omega | with_reducible assumption | (simp only [List.length_set, List.length_replicate, List.length_map, List.length_append, bys_length, u32s_length, u64s_length, i64s_length, List.length_take, List.length_drop, List.length_cons, List.length_nil, *] <;> first | done | omega) | rfl)) ?_)
  refine qv_vg (rfl) (q_fldA fo27_1 (by decide) rfl rfl) ?_
  first | (refine qv_vg (rfl) (q_loads 0 Try.underlying24 rfl rfl rfl sz24 (by first | omega | with_reducible assumption | (simp only [List.length_set, List.length_replicate, List.length_map, List.length_append, bys_length, u32s_length, u64s_length, i64s_length, List.length_take, List.length_drop, List.length_cons, List.length_nil, *] <;> first | done | omega) | rfl)) ?_) | (refine qv_vg (rfl) (q_loadsAt 0 Try.underlying24 rfl rfl rfl sz24 (by first | exact job0 h1 | exact job1 h1 h2) (by first | omega | with_reducible assumption | (simp only [List.length_set, List.length_replicate, List.length_map, List.length_append, bys_length, u32s_length, u64s_length, i64s_length, List.length_take, List.length_drop, List.length_cons, List.length_nil, *] <;> first | done | omega) | rfl)) ?_)
  refine qv_vg (rfl) (q_fldA fo27_2 (by decide) rfl rfl) ?_
  refine qv_vg (rfl) (q_load 0 Try.underlying25 rfl rfl rfl (job2 h1 h2)) ?_
  refine qv_end ?_
  refine VL.keep (Sub.cons (s := 0) rfl (Sub.cons (s := 1) rfl (Sub.cons (s := 2) rfl (Sub.cons (s := 3) rfl (Sub.cons (s := 6) rfl (Sub.cons (s := 13) rfl (Sub.cons (s := 15) rfl (Sub.cons (s := 17) rfl (Sub.cons (s := 19) rfl (Sub.nil _)))))))))) ?_
  refine vl_vg rfl (q_callV Try.func10 rfl rfl rfl (fun w1 H1 => rblock_calls j.1 j.2.1 j.2.2 h1 h2 w1)) rfl ?_
  refine vl_vg rfl (q_eqT flat64 rfl rfl (fits_bys' hb) rfl) rfl ?_
  first | (refine vl_v (q_pickT rfl rfl) rfl ?_) | (refine vl_v (q_pickF rfl rfl) rfl ?_)
  refine vl_v (q_assign rfl) rfl ?_
  refine vl_nil ?_
  refine (qn_n (th_n ?_))
  refine VC_ret ?_
  refine ⟨_, res1 rfl rfl, ?_⟩
  exact rfl

namespace chachaBlocks
open Go.ChangeShapes Go.WideShapes Go.ChangeAt Go.RowKit
theorem own : ownKnob Try.prog.godebug = none := by kernel_rfl
theorem laidOut : laidOutB Try.prog = true := by kernel_rfl
set_option maxRecDepth 100000 in
theorem lifted (os : Os) (started : os.Started) (H : Type) (enc : TypeId × Value → H) :
    ReturnsInHanded {} Try.checked os 3 .any (Rows.chachaBlocksSpec.pre6 enc Try.prog Try.f3 Rows.chachaBlocksRow.domain false) (Rows.chachaBlocksSpec.post enc Try.prog Try.f3 false true false false) := by
  refine returnsInHanded_of_change (C := Try.checked) own started (by kernel_rfl) Try.func3
    (ChangeSpec.witness6 (enc := enc) (C := Try.checked) false ⟨#[], #[(.agg (List.replicate 44 (Value.int .u8 0) ++ [Value.int .u32 0]).toArray)], []⟩ 8 (by kernel_rfl) (by kernel_rfl) (by kernel_rfl) (by kernel_rfl)) ?_
  intro W base args ds gs before hval0 hW hcnd _
  have hval : ∀ (j : Nat) t v, Try.f3.params[j]? = some t → args[j]? = some v → Value.okWide Try.prog W .any base t v := hval0
  have hW' := hW
  obtain ⟨p, q, hA0, hV, rfl, hfz, hnd⟩ := hW
  have hA : DataW.TrodAll enc Try.prog W 0 (fun _ => true) true Try.f3.params.toList args.toList ds p := hA0
  rw [Try.params3] at hA hval
  obtain ⟨v0, vs0, d0, ds0, p0, q0, hargs, rfl, rfl, h0, r0⟩ := trodAll_cons hA
  obtain ⟨rfl, rfl, rfl⟩ := trodAll_nil r0
  obtain rfl : args = #[v0] := by cases args; simp_all
  obtain ⟨rfl, rfl⟩ := trodVars_none hV
  have k0 := h0
  have lt0 : ∀ x ∈ p0, x.block < W.heap.size := by obtain ⟨m, hm⟩ := k0; exact DataW.trod_lt m _ _ _ hm
  obtain ⟨cs0, e0, f0⟩ := open_flat (ks := jobK) 6 (by kernel_rfl) (by kernel_rfl) (hval 0 27 v0 rfl rfl) h0
  subst e0
  obtain ⟨l0, g0⟩ := open_job f0
  clear hA0 hval0
  refine (chachaBlocks.walk W _ l0 g0).mono fun e W' ⟨he, hK⟩ => ?_
  subst he
  have bel := hK.below
  exact ⟨_, rfl, _, _, _, [], _, [], hW', trodAll_mk1 (shut_bool Try.underlying4 _), (trodAll_cons_mk (Below.trod laidOut (by kernel_rfl) (of_decide_eq_true (by kernel_rfl)) k0 bel lt0) trodAll_mk0), rfl, bel.frame _, fun h => by cases h⟩
theorem over : Rows.chachaBlocksRow.holds Try.pinned (OpenSpec.ofChange Rows.chachaBlocksSpec) :=
  OpenClaim.holds_of_wide 3 Try.f3 rfl rfl rfl rfl rfl rfl rfl ⟨rfl, rfl, rfl, rfl, rfl⟩ rfl rfl rfl rfl rfl (by kernel_rfl) Try.func3 (by kernel_rfl)
    (of_decide_eq_true (by kernel_rfl)) (by unfold Func.isWrapper; first | (rw [if_pos (by decide +kernel)]; kernel_rfl) | (rw [if_neg (by decide +kernel)]; exact ⟨rfl, rfl⟩))
    (fun os started H enc _ => lifted os started H enc)
theorem proved : Rows.ChachaBlocksSaid := over
end chachaBlocks
/-- The row. -/
theorem chachaBlocks_holds : Rows.ChachaBlocksSaid := chachaBlocks.proved
#print axioms chachaBlocks_holds
end Go.Proofs.Ytjlhehdkopponaa
