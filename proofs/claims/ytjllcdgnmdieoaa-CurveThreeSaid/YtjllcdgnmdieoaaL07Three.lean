/- Three who go on by one another's keys have the same, whichever way: the statement CurveThree. No condition. -/
import Derived.Test.YtjllcdgnmdieoaaRows
import Derived.Test.YtjllcdgnmdieoaaC07c
import Derived.Test.YtjllcdgnmdieoaaS07f
namespace Go.Proofs.Ytjllcdgnmdieoaa
open Go.RowKit Go.PBYtjllcdgnmdieoaa
set_option linter.unusedVariables false
set_option linter.unusedSimpArgs false
set_option maxRecDepth 10000

set_option maxHeartbeats 2000000 in
theorem curveThree.walk (w : World) (v0 : Value) (k : List UInt8) (h0 : KeyV v0 k) (v1 : Value) (l : List UInt8) (h1 : KeyV v1 l) (v2 : Value) (m : List UInt8) (h2 : KeyV v2 m) :
    Calls Try.prog 5 #[v0, v1, v2] w fun e w' => e = .returned (.bool true) ∧ Kept [] w w' := by
  obtain ⟨rfl, hk⟩ := h0
  obtain ⟨rfl, hl⟩ := h1
  obtain ⟨rfl, hm⟩ := h2
  have e9 : lf (smallB 9) = fz 9 := lf_small 9
  obtain ⟨bk, hbk⟩ : ∃ r, kf (xm (sbit k) (lf (smallB 9))) = r := ⟨_, rfl⟩
  obtain ⟨bm, hbm⟩ : ∃ r, kf (xm (sbit m) (lf (smallB 9))) = r := ⟨_, rfl⟩
  have lbk : bk.length = 32 := by rw [← hbk]; exact kf_length _
  have lbm : bm.length = 32 := by rw [← hbm]; exact kf_length _
  obtain ⟨lk, hlk⟩ : ∃ r, kf (xm (sbit l) (lf bk)) = r := ⟨_, rfl⟩
  have llk : lk.length = 32 := by rw [← hlk]; exact kf_length _
  obtain ⟨lm, hlm⟩ : ∃ r, kf (xm (sbit l) (lf bm)) = r := ⟨_, rfl⟩
  have llm : lm.length = 32 := by rw [← hlm]; exact kf_length _
  obtain ⟨mk, hmk⟩ : ∃ r, kf (xm (sbit m) (lf bk)) = r := ⟨_, rfl⟩
  have lmk : mk.length = 32 := by rw [← hmk]; exact kf_length _
  obtain ⟨r, hr⟩ : ∃ r, kf (xm (sbit m) (lf lk)) = r := ⟨_, rfl⟩
  have lr : r.length = 32 := by rw [← hr]; exact kf_length _
  have e2 : kf (xm (sbit k) (lf lm)) = r := by rw [← hr, ← hlk, ← hlm, ← hbk, ← hbm, lf_kf, lf_kf, lf_kf, lf_kf, e9, xm_three k l m]
  have e3 : kf (xm (sbit l) (lf mk)) = r := by rw [← hr, ← hlk, ← hmk, ← hbk, lf_kf, lf_kf, lf_kf, e9, xm_swap l m k]
  clear e9
  refine enter (n := 39) (R := fun e L => e = .returned (.bool true)) [.agg (bys k).toArray, .agg (bys l).toArray, .agg (bys m).toArray] Try.func5 rfl rfl rfl (St.refl w) ?_ (fun e w' L' h H => ⟨h, H.kept⟩)
  refine VC_seq ?_
  refine VC_region ?_
  refine l_boxA rfl rfl ?_
  intro b3
  refine l_boxA rfl rfl ?_
  intro b4
  refine l_boxA rfl rfl ?_
  intro b5
  refine vl_v (q_assign rfl) rfl ?_
  refine vl_nil ?_
  refine (th_n ?_)
  refine VC_seq ?_
  refine VC_region ?_
  refine vl_v (q_callV Try.func8 rfl rfl rfl (fun w1 H1 => awake7_calls w1)) rfl ?_
  refine vl_v (q_assign rfl) rfl ?_
  refine vl_nil ?_
  refine (th_n ?_)
  refine VC_seq ?_
  refine VC_drawM 7 [[], [], [], [2], [1, 3], [0, 4], [], [6, 5, 0, 1, 2, 3, 4]] [[], [], [], [2], [1, 2, 3], [0, 1, 2, 3, 4], [], [0, 1, 2, 3, 4, 5, 6]] rfl (by kernel_rfl) ?_
  first | (refine qm_v (fun xs hx => q_loads 0 Try.underlying23 rfl rfl rfl sz23 (by first | omega | with_reducible assumption | (simp only [List.length_take, List.length_drop, bys_length]; omega) | rfl)) ?_) | (refine qm_v (fun xs hx => q_loadsAt 0 Try.underlying23 rfl rfl rfl sz23 (by rfl) (by first | omega | with_reducible assumption | (simp only [List.length_take, List.length_drop, bys_length]; omega) | rfl)) ?_)
  first | (refine qm_v (fun xs hx => q_loads 1 Try.underlying23 rfl rfl rfl sz23 (by first | omega | with_reducible assumption | (simp only [List.length_take, List.length_drop, bys_length]; omega) | rfl)) ?_) | (refine qm_v (fun xs hx => q_loadsAt 1 Try.underlying23 rfl rfl rfl sz23 (by rfl) (by first | omega | with_reducible assumption | (simp only [List.length_take, List.length_drop, bys_length]; omega) | rfl)) ?_)
  first | (refine qm_v (fun xs hx => q_loads 2 Try.underlying23 rfl rfl rfl sz23 (by first | omega | with_reducible assumption | (simp only [List.length_take, List.length_drop, bys_length]; omega) | rfl)) ?_) | (refine qm_v (fun xs hx => q_loadsAt 2 Try.underlying23 rfl rfl rfl sz23 (by rfl) (by first | omega | with_reducible assumption | (simp only [List.length_take, List.length_drop, bys_length]; omega) | rfl)) ?_)
  refine qm_v (fun xs hx => q_callV Try.func11 rfl rfl rfl (fun w1 H1 => base_calls k bk hk hbk w1)) ?_
  refine qm_v (fun xs hx => q_callV Try.func9 rfl rfl rfl (fun w1 H1 => hlk ▸ mult_calls l bk hl lbk w1)) ?_
  refine qm_v (fun xs hx => q_callV Try.func9 rfl rfl rfl (fun w1 H1 => hr ▸ mult_calls m lk hm llk w1)) ?_
  refine qm_a (fun xs hx => q_alloc zr23 rfl) ?_
  refine qm_end ?_
  intro xs hx
  obtain ⟨⟨b8, e8⟩, _⟩ := hx
  simp only [e8]
  simp only [resT, nRow, nBlk, nRowT, tupAt_0, List.append_assoc, List.nil_append, List.append_nil, List.cons_append, List.singleton_append, e8]
  refine VL.keep (Sub.cons (s := 0) rfl (Sub.cons (s := 1) rfl (Sub.cons (s := 2) rfl (Sub.cons (s := 3) rfl (Sub.cons (s := 4) rfl (Sub.cons (s := 5) rfl (Sub.cons (s := 6) rfl (Sub.cons (s := 7) rfl (Sub.cons (s := 16) rfl (Sub.cons (s := 8) rfl (Sub.nil _))))))))))) ?_
  refine l_storeA 0 rfl rfl rfl sz23 (by first | omega | with_reducible assumption | (simp only [List.length_take, List.length_drop, bys_length]; omega) | rfl) (by first | (with_reducible first | exact bys_one _ | exact u32s_one _ | exact u64s_one _ | exact i64s_one _ | exact n64s_one _ | assumption) | exact bys_one _ | exact u32s_one _ | exact u64s_one _ | exact i64s_one _ | exact one_all rfl | (refine app_one ?_ ?_ <;> first | exact bys_one _ | (simp; done))) (by first | omega | with_reducible assumption | (simp only [List.length_take, List.length_drop, bys_length]; omega) | rfl) ?_
  simp only [List.set_cons_zero, List.set_cons_succ]
  refine vl_nil ?_
  refine (qn_n (th_n ?_))
  refine VC_seq ?_
  refine VC_drawM 7 [[], [], [], [2], [1, 3], [0, 4], [], [6, 5, 0, 1, 2, 3, 4]] [[], [], [], [2], [1, 2, 3], [0, 1, 2, 3, 4], [], [0, 1, 2, 3, 4, 5, 6]] rfl (by kernel_rfl) ?_
  first | (refine qm_v (fun xs hx => q_loads 3 Try.underlying23 rfl rfl rfl sz23 (by first | omega | with_reducible assumption | (simp only [List.length_take, List.length_drop, bys_length]; omega) | rfl)) ?_) | (refine qm_v (fun xs hx => q_loadsAt 3 Try.underlying23 rfl rfl rfl sz23 (by rfl) (by first | omega | with_reducible assumption | (simp only [List.length_take, List.length_drop, bys_length]; omega) | rfl)) ?_)
  first | (refine qm_v (fun xs hx => q_loads 2 Try.underlying23 rfl rfl rfl sz23 (by first | omega | with_reducible assumption | (simp only [List.length_take, List.length_drop, bys_length]; omega) | rfl)) ?_) | (refine qm_v (fun xs hx => q_loadsAt 2 Try.underlying23 rfl rfl rfl sz23 (by rfl) (by first | omega | with_reducible assumption | (simp only [List.length_take, List.length_drop, bys_length]; omega) | rfl)) ?_)
  first | (refine qm_v (fun xs hx => q_loads 1 Try.underlying23 rfl rfl rfl sz23 (by first | omega | with_reducible assumption | (simp only [List.length_take, List.length_drop, bys_length]; omega) | rfl)) ?_) | (refine qm_v (fun xs hx => q_loadsAt 1 Try.underlying23 rfl rfl rfl sz23 (by rfl) (by first | omega | with_reducible assumption | (simp only [List.length_take, List.length_drop, bys_length]; omega) | rfl)) ?_)
  refine qm_v (fun xs hx => q_callV Try.func11 rfl rfl rfl (fun w1 H1 => base_calls m bm hm hbm w1)) ?_
  refine qm_v (fun xs hx => q_callV Try.func9 rfl rfl rfl (fun w1 H1 => hlm ▸ mult_calls l bm hl lbm w1)) ?_
  refine qm_v (fun xs hx => q_callV Try.func9 rfl rfl rfl (fun w1 H1 => e2 ▸ mult_calls k lm hk llm w1)) ?_
  refine qm_a (fun xs hx => q_alloc zr23 rfl) ?_
  refine qm_end ?_
  intro xs hx
  obtain ⟨⟨b9, e9⟩, _⟩ := hx
  simp only [e9]
  simp only [resT, nRow, nBlk, nRowT, tupAt_0, List.append_assoc, List.nil_append, List.append_nil, List.cons_append, List.singleton_append, e9]
  refine VL.keep (Sub.cons (s := 0) rfl (Sub.cons (s := 1) rfl (Sub.cons (s := 2) rfl (Sub.cons (s := 3) rfl (Sub.cons (s := 4) rfl (Sub.cons (s := 5) rfl (Sub.cons (s := 6) rfl (Sub.cons (s := 7) rfl (Sub.cons (s := 8) rfl (Sub.cons (s := 22) rfl (Sub.cons (s := 9) rfl (Sub.nil _)))))))))))) ?_
  refine l_storeA 0 rfl rfl rfl sz23 (by first | omega | with_reducible assumption | (simp only [List.length_take, List.length_drop, bys_length]; omega) | rfl) (by first | (with_reducible first | exact bys_one _ | exact u32s_one _ | exact u64s_one _ | exact i64s_one _ | exact n64s_one _ | assumption) | exact bys_one _ | exact u32s_one _ | exact u64s_one _ | exact i64s_one _ | exact one_all rfl | (refine app_one ?_ ?_ <;> first | exact bys_one _ | (simp; done))) (by first | omega | with_reducible assumption | (simp only [List.length_take, List.length_drop, bys_length]; omega) | rfl) ?_
  simp only [List.set_cons_zero, List.set_cons_succ]
  refine vl_nil ?_
  refine (qn_n (th_n ?_))
  refine VC_seq ?_
  refine VC_drawV 14 [[], [0], [1], [1], [2, 3, 1], [1, 4], [5, 1], [6], [6], [6], [6], [10, 6], [9, 11, 6], [8, 12, 6], [7, 13, 6], [6, 14], [15, 13, 0, 1, 2, 3, 4, 5, 6, 7, 8, 9, 10, 11, 12, 14]] [[], [0], [0, 1], [0, 1], [0, 1, 2, 3], [0, 1, 2, 3, 4], [0, 1, 2, 3, 4, 5], [0, 1, 2, 3, 4, 5, 6], [0, 1, 2, 3, 4, 5, 6], [0, 1, 2, 3, 4, 5, 6], [0, 1, 2, 3, 4, 5, 6], [0, 1, 2, 3, 4, 5, 6, 10], [0, 1, 2, 3, 4, 5, 6, 9, 10, 11], [0, 1, 2, 3, 4, 5, 6, 8, 9, 10, 11, 12], [0, 1, 2, 3, 4, 5, 6, 7, 8, 9, 10, 11, 12, 13], [0, 1, 2, 3, 4, 5, 6, 7, 8, 9, 10, 11, 12, 13, 14], [0, 1, 2, 3, 4, 5, 6, 7, 8, 9, 10, 11, 12, 13, 14, 15]] rfl (by kernel_rfl) ?_
  refine qv_v (q_move rfl) ?_
  refine qv_v (q_move rfl) ?_
  first | (refine qv_vg (rfl) (q_loads 1 Try.underlying23 rfl rfl rfl sz23 (by first | omega | with_reducible assumption | (simp only [List.length_take, List.length_drop, bys_length]; omega) | rfl)) ?_) | (refine qv_vg (rfl) (q_loadsAt 1 Try.underlying23 rfl rfl rfl sz23 (by rfl) (by first | omega | with_reducible assumption | (simp only [List.length_take, List.length_drop, bys_length]; omega) | rfl)) ?_)
  first | (refine qv_vg (rfl) (q_loads 0 Try.underlying23 rfl rfl rfl sz23 (by first | omega | with_reducible assumption | (simp only [List.length_take, List.length_drop, bys_length]; omega) | rfl)) ?_) | (refine qv_vg (rfl) (q_loadsAt 0 Try.underlying23 rfl rfl rfl sz23 (by rfl) (by first | omega | with_reducible assumption | (simp only [List.length_take, List.length_drop, bys_length]; omega) | rfl)) ?_)
  refine qv_vg (rfl) (q_eqT flat32 rfl rfl (fits_bys' lr) rfl) ?_
  first | (refine qv_v (q_pickT rfl rfl) ?_) | (refine qv_v (q_pickF rfl rfl) ?_)
  refine qv_v (q_move rfl) ?_
  first | (refine qv_vg (rfl) (q_loads 1 Try.underlying23 rfl rfl rfl sz23 (by first | omega | with_reducible assumption | (simp only [List.length_take, List.length_drop, bys_length]; omega) | rfl)) ?_) | (refine qv_vg (rfl) (q_loadsAt 1 Try.underlying23 rfl rfl rfl sz23 (by rfl) (by first | omega | with_reducible assumption | (simp only [List.length_take, List.length_drop, bys_length]; omega) | rfl)) ?_)
  first | (refine qv_vg (rfl) (q_loads 3 Try.underlying23 rfl rfl rfl sz23 (by first | omega | with_reducible assumption | (simp only [List.length_take, List.length_drop, bys_length]; omega) | rfl)) ?_) | (refine qv_vg (rfl) (q_loadsAt 3 Try.underlying23 rfl rfl rfl sz23 (by rfl) (by first | omega | with_reducible assumption | (simp only [List.length_take, List.length_drop, bys_length]; omega) | rfl)) ?_)
  first | (refine qv_vg (rfl) (q_loads 2 Try.underlying23 rfl rfl rfl sz23 (by first | omega | with_reducible assumption | (simp only [List.length_take, List.length_drop, bys_length]; omega) | rfl)) ?_) | (refine qv_vg (rfl) (q_loadsAt 2 Try.underlying23 rfl rfl rfl sz23 (by rfl) (by first | omega | with_reducible assumption | (simp only [List.length_take, List.length_drop, bys_length]; omega) | rfl)) ?_)
  first | (refine qv_vg (rfl) (q_loads 4 Try.underlying23 rfl rfl rfl sz23 (by first | omega | with_reducible assumption | (simp only [List.length_take, List.length_drop, bys_length]; omega) | rfl)) ?_) | (refine qv_vg (rfl) (q_loadsAt 4 Try.underlying23 rfl rfl rfl sz23 (by rfl) (by first | omega | with_reducible assumption | (simp only [List.length_take, List.length_drop, bys_length]; omega) | rfl)) ?_)
  refine qv_vg (rfl) (q_callV Try.func11 rfl rfl rfl (fun w1 H1 => base_calls k bk hk hbk w1)) ?_
  refine qv_vg (rfl) (q_callV Try.func9 rfl rfl rfl (fun w1 H1 => hmk ▸ mult_calls m bk hm lbk w1)) ?_
  refine qv_vg (rfl) (q_callV Try.func9 rfl rfl rfl (fun w1 H1 => e3 ▸ mult_calls l mk hl lmk w1)) ?_
  refine qv_end ?_
  refine VL.keep (Sub.cons (s := 0) rfl (Sub.cons (s := 1) rfl (Sub.cons (s := 2) rfl (Sub.cons (s := 3) rfl (Sub.cons (s := 4) rfl (Sub.cons (s := 5) rfl (Sub.cons (s := 6) rfl (Sub.cons (s := 7) rfl (Sub.cons (s := 8) rfl (Sub.cons (s := 9) rfl (Sub.cons (s := 29) rfl (Sub.cons (s := 30) rfl (Sub.cons (s := 36) rfl (Sub.nil _)))))))))))))) ?_
  refine vl_vg rfl (q_eqT flat32 rfl rfl (fits_bys' lr) rfl) rfl ?_
  first | (refine vl_v (q_pickT rfl rfl) rfl ?_) | (refine vl_v (q_pickF rfl rfl) rfl ?_)
  refine vl_v (q_assign rfl) rfl ?_
  refine vl_nil ?_
  refine (qn_n (th_n ?_))
  refine VC_ret ?_
  refine ⟨_, res1 rfl rfl, ?_⟩
  exact rfl

namespace curveThree
open Go.ChangeShapes Go.WideShapes Go.ChangeAt Go.RowKit
theorem own : ownKnob Try.prog.godebug = none := by kernel_rfl
theorem laidOut : laidOutB Try.prog = true := by kernel_rfl
set_option maxRecDepth 100000 in
theorem lifted (os : Os) (started : os.Started) (H : Type) (enc : TypeId × Value → H) :
    ReturnsInHanded {} Try.checked os 5 .any (Rows.curveThreeSpec.pre6 enc Try.prog Try.f5 Rows.curveThreeRow.domain false) (Rows.curveThreeSpec.post enc Try.prog Try.f5 false true false false) := by
  refine returnsInHanded_of_change (C := Try.checked) own started (by kernel_rfl) Try.func5
    (ChangeSpec.witness6 (enc := enc) (C := Try.checked) false ⟨#[], #[(.agg (List.replicate 32 (Value.int .u8 0)).toArray), (.agg (List.replicate 32 (Value.int .u8 0)).toArray), (.agg (List.replicate 32 (Value.int .u8 0)).toArray)], []⟩ 8 (by kernel_rfl) (by kernel_rfl) (by kernel_rfl) (by kernel_rfl)) ?_
  intro W base args ds gs before hval0 hW hcnd _
  have hval : ∀ (j : Nat) t v, Try.f5.params[j]? = some t → args[j]? = some v → Value.okWide Try.prog W .any base t v := hval0
  have hW' := hW
  obtain ⟨p, q, hA0, hV, rfl, hfz, hnd⟩ := hW
  have hA : DataW.TrodAll enc Try.prog W 0 (fun _ => true) true Try.f5.params.toList args.toList ds p := hA0
  rw [Try.params5] at hA hval
  obtain ⟨v0, vs0, d0, ds0, p0, q0, hargs, rfl, rfl, h0, r0⟩ := trodAll_cons hA
  obtain ⟨v1, vs1, d1, ds1, p1, q1, rfl, rfl, rfl, h1, r1⟩ := trodAll_cons r0
  obtain ⟨v2, vs2, d2, ds2, p2, q2, rfl, rfl, rfl, h2, r2⟩ := trodAll_cons r1
  obtain ⟨rfl, rfl, rfl⟩ := trodAll_nil r2
  obtain rfl : args = #[v0, v1, v2] := by cases args; simp_all
  obtain ⟨rfl, rfl⟩ := trodVars_none hV
  have k0 := h0
  have lt0 : ∀ x ∈ p0, x.block < W.heap.size := by obtain ⟨m, hm⟩ := k0; exact DataW.trod_lt m _ _ _ hm
  have k1 := h1
  have lt1 : ∀ x ∈ p1, x.block < W.heap.size := by obtain ⟨m, hm⟩ := k1; exact DataW.trod_lt m _ _ _ hm
  have k2 := h2
  have lt2 : ∀ x ∈ p2, x.block < W.heap.size := by obtain ⟨m, hm⟩ := k2; exact DataW.trod_lt m _ _ _ hm
  obtain ⟨cs0, e0, f0⟩ := open_flat (ks := (List.replicate 32 .u8)) 6 (by kernel_rfl) (by kernel_rfl) (hval 0 23 v0 rfl rfl) h0
  subst e0
  obtain ⟨l0, g0⟩ := open_key f0
  obtain ⟨cs1, e1, f1⟩ := open_flat (ks := (List.replicate 32 .u8)) 6 (by kernel_rfl) (by kernel_rfl) (hval 1 23 v1 rfl rfl) h1
  subst e1
  obtain ⟨l1, g1⟩ := open_key f1
  obtain ⟨cs2, e2, f2⟩ := open_flat (ks := (List.replicate 32 .u8)) 6 (by kernel_rfl) (by kernel_rfl) (hval 2 23 v2 rfl rfl) h2
  subst e2
  obtain ⟨l2, g2⟩ := open_key f2
  clear hA0 hval0
  refine (curveThree.walk W _ l0 g0 _ l1 g1 _ l2 g2).mono fun e W' ⟨he, hK⟩ => ?_
  subst he
  have bel := hK.below
  exact ⟨_, rfl, _, _, _, [], _, [], hW', trodAll_mk1 (shut_bool Try.underlying4 _), (trodAll_cons_mk (Below.trod laidOut (by kernel_rfl) (of_decide_eq_true (by kernel_rfl)) k0 bel lt0) (trodAll_cons_mk (Below.trod laidOut (by kernel_rfl) (of_decide_eq_true (by kernel_rfl)) k1 bel lt1) (trodAll_cons_mk (Below.trod laidOut (by kernel_rfl) (of_decide_eq_true (by kernel_rfl)) k2 bel lt2) trodAll_mk0))), rfl, bel.frame _, fun h => by cases h⟩
theorem over : Rows.curveThreeRow.holds Try.pinned (OpenSpec.ofChange Rows.curveThreeSpec) :=
  OpenClaim.holds_of_wide 5 Try.f5 rfl rfl rfl rfl rfl rfl rfl ⟨rfl, rfl, rfl, rfl, rfl⟩ rfl rfl rfl rfl rfl (by kernel_rfl) Try.func5 (by kernel_rfl)
    (of_decide_eq_true (by kernel_rfl)) (by unfold Func.isWrapper; first | (rw [if_pos (by decide +kernel)]; kernel_rfl) | (rw [if_neg (by decide +kernel)]; exact ⟨rfl, rfl⟩))
    (fun os started H enc _ => lifted os started H enc)
theorem proved : Rows.CurveThreeSaid := over
end curveThree
/-- The row. -/
theorem curveThree_holds : Rows.CurveThreeSaid := curveThree.proved
#print axioms curveThree_holds
end Go.Proofs.Ytjllcdgnmdieoaa
