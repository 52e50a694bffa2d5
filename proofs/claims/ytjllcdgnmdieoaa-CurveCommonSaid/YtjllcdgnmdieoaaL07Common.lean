/- Two who each take their own secret and the other one's public key have the same: the statement CurveCommon. No condition. -/
import Derived.Test.YtjllcdgnmdieoaaRows
import Derived.Test.YtjllcdgnmdieoaaC07c
import Derived.Test.YtjllcdgnmdieoaaS07f
namespace Go.Proofs.Ytjllcdgnmdieoaa
open Go.RowKit Go.PBYtjllcdgnmdieoaa
set_option linter.unusedVariables false
set_option linter.unusedSimpArgs false
set_option maxRecDepth 10000

set_option maxHeartbeats 2000000 in
theorem curveCommon.walk (w : World) (v0 : Value) (k : List UInt8) (h0 : KeyV v0 k) (v1 : Value) (p : List UInt8) (h1 : KeyV v1 p) :
    Calls Try.prog 4 #[v0, v1] w fun e w' => e = .returned (.bool true) ∧ Kept [] w w' := by
  obtain ⟨rfl, hk⟩ := h0
  obtain ⟨rfl, hp⟩ := h1
  have e9 : lf (smallB 9) = fz 9 := lf_small 9
  obtain ⟨bk, hbk⟩ : ∃ r, kf (xm (sbit k) (lf (smallB 9))) = r := ⟨_, rfl⟩
  obtain ⟨bp, hbp⟩ : ∃ r, kf (xm (sbit p) (lf (smallB 9))) = r := ⟨_, rfl⟩
  have lbk : bk.length = 32 := by rw [← hbk]; exact kf_length _
  have lbp : bp.length = 32 := by rw [← hbp]; exact kf_length _
  obtain ⟨r, hr⟩ : ∃ r, kf (xm (sbit k) (lf bp)) = r := ⟨_, rfl⟩
  have lr : r.length = 32 := by rw [← hr]; exact kf_length _
  have e2 : kf (xm (sbit p) (lf bk)) = r := by rw [← hr, ← hbk, ← hbp, lf_kf, lf_kf, e9, xm_two]
  clear e9
  refine enter (n := 19) (R := fun e L => e = .returned (.bool true)) [.agg (bys k).toArray, .agg (bys p).toArray] Try.func4 rfl rfl rfl (St.refl w) ?_ (fun e w' L' h H => ⟨h, H.kept⟩)
  refine VC_seq ?_
  refine VC_region ?_
  refine l_boxA rfl rfl ?_
  intro b2
  refine l_boxA rfl rfl ?_
  intro b3
  refine vl_v (q_assign rfl) rfl ?_
  refine vl_nil ?_
  refine (th_n ?_)
  refine VC_seq ?_
  refine VC_region ?_
  refine vl_v (q_callV Try.func8 rfl rfl rfl (fun w1 H1 => awake7_calls w1)) rfl ?_
  refine vl_v (q_assign rfl) rfl ?_
  refine vl_nil ?_
  refine (th_n ?_)
  refine VC_seq ?_
  refine VC_drawV 9 [[], [0], [1], [1], [3, 1], [2, 4, 1], [1], [1], [7, 5, 1], [6, 8, 1], [5, 9, 1], [1, 10], [11, 9, 0, 1, 2, 3, 4, 5, 6, 7, 8, 10]] [[], [0], [0, 1], [0, 1], [0, 1, 3], [0, 1, 2, 3, 4], [0, 1], [0, 1], [0, 1, 2, 3, 4, 5, 7], [0, 1, 2, 3, 4, 5, 6, 7, 8], [0, 1, 2, 3, 4, 5, 6, 7, 8, 9], [0, 1, 2, 3, 4, 5, 6, 7, 8, 9, 10], [0, 1, 2, 3, 4, 5, 6, 7, 8, 9, 10, 11]] rfl (by kernel_rfl) ?_
  refine qv_v (q_move rfl) ?_
  refine qv_v (q_move rfl) ?_
  first | (refine qv_vg (rfl) (q_loads 1 Try.underlying23 rfl rfl rfl sz23 (by first | omega | with_reducible assumption | (simp only [List.length_take, List.length_drop, bys_length]; omega) | rfl)) ?_) | (refine qv_vg (rfl) (q_loadsAt 1 Try.underlying23 rfl rfl rfl sz23 (by rfl) (by first | omega | with_reducible assumption | (simp only [List.length_take, List.length_drop, bys_length]; omega) | rfl)) ?_)
  first | (refine qv_vg (rfl) (q_loads 0 Try.underlying23 rfl rfl rfl sz23 (by first | omega | with_reducible assumption | (simp only [List.length_take, List.length_drop, bys_length]; omega) | rfl)) ?_) | (refine qv_vg (rfl) (q_loadsAt 0 Try.underlying23 rfl rfl rfl sz23 (by rfl) (by first | omega | with_reducible assumption | (simp only [List.length_take, List.length_drop, bys_length]; omega) | rfl)) ?_)
  refine qv_vg (rfl) (q_callV Try.func11 rfl rfl rfl (fun w1 H1 => base_calls p bp hp hbp w1)) ?_
  refine qv_vg (rfl) (q_callV Try.func9 rfl rfl rfl (fun w1 H1 => hr ▸ mult_calls k bp hk lbp w1)) ?_
  first | (refine qv_vg (rfl) (q_loads 0 Try.underlying23 rfl rfl rfl sz23 (by first | omega | with_reducible assumption | (simp only [List.length_take, List.length_drop, bys_length]; omega) | rfl)) ?_) | (refine qv_vg (rfl) (q_loadsAt 0 Try.underlying23 rfl rfl rfl sz23 (by rfl) (by first | omega | with_reducible assumption | (simp only [List.length_take, List.length_drop, bys_length]; omega) | rfl)) ?_)
  first | (refine qv_vg (rfl) (q_loads 1 Try.underlying23 rfl rfl rfl sz23 (by first | omega | with_reducible assumption | (simp only [List.length_take, List.length_drop, bys_length]; omega) | rfl)) ?_) | (refine qv_vg (rfl) (q_loadsAt 1 Try.underlying23 rfl rfl rfl sz23 (by rfl) (by first | omega | with_reducible assumption | (simp only [List.length_take, List.length_drop, bys_length]; omega) | rfl)) ?_)
  refine qv_vg (rfl) (q_callV Try.func11 rfl rfl rfl (fun w1 H1 => base_calls k bk hk hbk w1)) ?_
  refine qv_end ?_
  refine VL.keep (Sub.cons (s := 0) rfl (Sub.cons (s := 1) rfl (Sub.cons (s := 2) rfl (Sub.cons (s := 3) rfl (Sub.cons (s := 4) rfl (Sub.cons (s := 5) rfl (Sub.cons (s := 8) rfl (Sub.cons (s := 12) rfl (Sub.cons (s := 13) rfl (Sub.cons (s := 15) rfl (Sub.nil _))))))))))) ?_
  refine vl_vg rfl (q_callV Try.func9 rfl rfl rfl (fun w1 H1 => e2 ▸ mult_calls p bk hp lbk w1)) rfl ?_
  refine vl_vg rfl (q_eqT flat32 rfl rfl (fits_bys' lr) rfl) rfl ?_
  first | (refine vl_v (q_pickT rfl rfl) rfl ?_) | (refine vl_v (q_pickF rfl rfl) rfl ?_)
  refine vl_v (q_assign rfl) rfl ?_
  refine vl_nil ?_
  refine (qn_n (th_n ?_))
  refine VC_ret ?_
  refine ⟨_, res1 rfl rfl, ?_⟩
  exact rfl

namespace curveCommon
open Go.ChangeShapes Go.WideShapes Go.ChangeAt Go.RowKit
theorem own : ownKnob Try.prog.godebug = none := by kernel_rfl
theorem laidOut : laidOutB Try.prog = true := by kernel_rfl
set_option maxRecDepth 100000 in
theorem lifted (os : Os) (started : os.Started) (H : Type) (enc : TypeId × Value → H) :
    ReturnsInHanded {} Try.checked os 4 .any (Rows.curveCommonSpec.pre6 enc Try.prog Try.f4 Rows.curveCommonRow.domain false) (Rows.curveCommonSpec.post enc Try.prog Try.f4 false true false false) := by
  refine returnsInHanded_of_change (C := Try.checked) own started (by kernel_rfl) Try.func4
    (ChangeSpec.witness6 (enc := enc) (C := Try.checked) false ⟨#[], #[(.agg (List.replicate 32 (Value.int .u8 0)).toArray), (.agg (List.replicate 32 (Value.int .u8 0)).toArray)], []⟩ 8 (by kernel_rfl) (by kernel_rfl) (by kernel_rfl) (by kernel_rfl)) ?_
  intro W base args ds gs before hval0 hW hcnd _
  have hval : ∀ (j : Nat) t v, Try.f4.params[j]? = some t → args[j]? = some v → Value.okWide Try.prog W .any base t v := hval0
  have hW' := hW
  obtain ⟨p, q, hA0, hV, rfl, hfz, hnd⟩ := hW
  have hA : DataW.TrodAll enc Try.prog W 0 (fun _ => true) true Try.f4.params.toList args.toList ds p := hA0
  rw [Try.params4] at hA hval
  obtain ⟨v0, vs0, d0, ds0, p0, q0, hargs, rfl, rfl, h0, r0⟩ := trodAll_cons hA
  obtain ⟨v1, vs1, d1, ds1, p1, q1, rfl, rfl, rfl, h1, r1⟩ := trodAll_cons r0
  obtain ⟨rfl, rfl, rfl⟩ := trodAll_nil r1
  obtain rfl : args = #[v0, v1] := by cases args; simp_all
  obtain ⟨rfl, rfl⟩ := trodVars_none hV
  have k0 := h0
  have lt0 : ∀ x ∈ p0, x.block < W.heap.size := by obtain ⟨m, hm⟩ := k0; exact DataW.trod_lt m _ _ _ hm
  have k1 := h1
  have lt1 : ∀ x ∈ p1, x.block < W.heap.size := by obtain ⟨m, hm⟩ := k1; exact DataW.trod_lt m _ _ _ hm
  obtain ⟨cs0, e0, f0⟩ := open_flat (ks := (List.replicate 32 .u8)) 6 (by kernel_rfl) (by kernel_rfl) (hval 0 23 v0 rfl rfl) h0
  subst e0
  obtain ⟨l0, g0⟩ := open_key f0
  obtain ⟨cs1, e1, f1⟩ := open_flat (ks := (List.replicate 32 .u8)) 6 (by kernel_rfl) (by kernel_rfl) (hval 1 23 v1 rfl rfl) h1
  subst e1
  obtain ⟨l1, g1⟩ := open_key f1
  clear hA0 hval0
  refine (curveCommon.walk W _ l0 g0 _ l1 g1).mono fun e W' ⟨he, hK⟩ => ?_
  subst he
  have bel := hK.below
  exact ⟨_, rfl, _, _, _, [], _, [], hW', trodAll_mk1 (shut_bool Try.underlying4 _), (trodAll_cons_mk (Below.trod laidOut (by kernel_rfl) (of_decide_eq_true (by kernel_rfl)) k0 bel lt0) (trodAll_cons_mk (Below.trod laidOut (by kernel_rfl) (of_decide_eq_true (by kernel_rfl)) k1 bel lt1) trodAll_mk0)), rfl, bel.frame _, fun h => by cases h⟩
theorem over : Rows.curveCommonRow.holds Try.pinned (OpenSpec.ofChange Rows.curveCommonSpec) :=
  OpenClaim.holds_of_wide 4 Try.f4 rfl rfl rfl rfl rfl rfl rfl ⟨rfl, rfl, rfl, rfl, rfl⟩ rfl rfl rfl rfl rfl (by kernel_rfl) Try.func4 (by kernel_rfl)
    (of_decide_eq_true (by kernel_rfl)) (by unfold Func.isWrapper; first | (rw [if_pos (by decide +kernel)]; kernel_rfl) | (rw [if_neg (by decide +kernel)]; exact ⟨rfl, rfl⟩))
    (fun os started H enc _ => lifted os started H enc)
theorem proved : Rows.CurveCommonSaid := over
end curveCommon
/-- The row. -/
theorem curveCommon_holds : Rows.CurveCommonSaid := curveCommon.proved
#print axioms curveCommon_holds
end Go.Proofs.Ytjllcdgnmdieoaa
