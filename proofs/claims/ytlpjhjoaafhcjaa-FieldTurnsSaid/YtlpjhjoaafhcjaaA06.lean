/- What the law's helper functions of chapter 06 do. No condition. -/
import Derived.Test.YtlpjhjoaafhcjaaC06c
import Derived.Test.YtlpjhjoaafhcjaaC06s
import Derived.Test.YtlpjhjoaafhcjaaC06t
import Derived.Test.YtlpjhjoaafhcjaaSH
import Derived.Test.YtlpjhjoaafhcjaaAK
namespace Go.Proofs.Ytlpjhjoaafhcjaa
open Go.RowKit Go.PBYtlpjhjoaafhcjaa
set_option linter.unusedVariables false
set_option linter.unusedSimpArgs false
set_option maxRecDepth 10000

theorem small_calls (x : UInt8) (w : World) :
    Calls Try.prog 23 #[vU8 x] w fun e w' => e = .returned (.agg (i64s (ofL (smallB x))).toArray) ∧ Kept [] w w' := by
  have hs := smallB_length x
  have hl := (ofL_okE hs).1
  refine enter (n := 6) (R := fun e L => e = .returned (.agg (i64s (ofL (smallB x))).toArray)) [vU8 x] Try.func23 rfl rfl rfl (St.refl w) ?_ (fun e w' L' h H => ⟨h, H.kept⟩)
  refine VC_seq ?_
  refine VC_region ?_
  refine l_allocA zr27 rfl ?_
  intro b2
  refine vl_nil ?_
  refine (th_n ?_)
  refine VC_seq ?_
  refine VC_region ?_
  refine vl_v (q_move rfl) rfl ?_
  refine vl_v (q_build (c' := bys (smallB x)) rfl (by kernel_rfl)) rfl ?_
  refine vl_v (q_callV Try.func10 rfl rfl rfl (fun w1 H1 => of_calls _ hs w1)) rfl ?_
  refine l_storeA 0 rfl rfl rfl sz27 (by first | omega | with_reducible assumption | (simp only [bys_length, u32s_length, u64s_length, i64s_length, n64s_length, List.length_append]; omega) | (simp only [List.length_set, List.length_replicate, List.length_map, List.length_append, bys_length, u32s_length, u64s_length, i64s_length, List.length_take, List.length_drop, List.length_cons, List.length_nil, *] <;> first | done | omega) | rfl) (by first | with_reducible exact bys_one _ | with_reducible exact u32s_one _ | with_reducible exact u64s_one _ | with_reducible exact i64s_one _ | with_reducible exact n64s_one _ | exact bys_one _ | exact u32s_one _ | exact u64s_one _ | exact i64s_one _ | with_reducible assumption | exact one_all rfl | (refine app_one ?_ ?_ <;> first | exact bys_one _ | (simp; done))) (by first | omega | with_reducible assumption | (simp only [bys_length, u32s_length, u64s_length, i64s_length, n64s_length, List.length_append]; omega) | (simp only [List.length_set, List.length_replicate, List.length_map, List.length_append, bys_length, u32s_length, u64s_length, i64s_length, List.length_take, List.length_drop, List.length_cons, List.length_nil, *] <;> first | done | omega) | rfl) ?_
  simp only [List.set_cons_zero, List.set_cons_succ]
  refine vl_nil ?_
  refine (th_n ?_)
  refine VC_ret ?_
  refine ⟨_, resC1 0 rfl Try.underlying27 rfl rfl rfl sz27 (by first | omega | with_reducible assumption | (simp only [bys_length, u32s_length, u64s_length, i64s_length, n64s_length, List.length_append]; omega) | (simp only [List.length_set, List.length_replicate, List.length_map, List.length_append, bys_length, u32s_length, u64s_length, i64s_length, List.length_take, List.length_drop, List.length_cons, List.length_nil, *] <;> first | done | omega) | rfl), ?_⟩
  exact rfl
theorem f2_ne : fz ((2 : UInt8).toNat : Int) ≠ 0 := by decide
set_option maxHeartbeats 2000000 in
theorem awake6_calls (w : World) : Calls Try.prog 9 #[] w fun e w' => e = .returned (.bool true) ∧ Kept [] w w' := by
  have hm2 := mul_finv f2_ne
  have hi2 : okE (invL (ofL (smallB 2))) := by first | with_reducible assumption | (simp (maxDischargeDepth := 30) only [addL_okE, subL_okE, mulL_okE, invL_okE, ofL_okE, keyL_length, kf_length, keyV_length, smallB_length, *]; done)
  have hx : okE (mulL (invL (ofL (smallB 2))) (ofL (smallB 2))) := by first | with_reducible assumption | (simp (maxDischargeDepth := 30) only [addL_okE, subL_okE, mulL_okE, invL_okE, ofL_okE, keyL_length, kf_length, keyV_length, smallB_length, *]; done)
  have hxl := hx.1
  have e1 : keyL (mulL (invL (ofL (smallB 2))) (ofL (smallB 2))) = smallB 1 := by
    simp (maxDischargeDepth := 30) only [keyL_kf, keyR_kf, ef_addL, ef_subL, ef_mulL, ef_invL, ef_ofL, rf_addL, rf_subL, rf_mulL, rf_invL, rf_ofL, lf_kf, lf_small, lf_zero, addL_okE, subL_okE, mulL_okE, invL_okE, ofL_okE, raddL_dig, rsubL_dig, rmulL_dig, rinvL_dig, rofL_dig, keyL_length, kf_length, keyV_length, smallB_length, *]
    rw [show finv (fz ((2 : UInt8).toNat : Int)) * fz ((2 : UInt8).toNat : Int) = 1 by grind]
    exact kf_one
  have e2 : keyL (subL (ofL (smallB 7)) (ofL (smallB 3))) = smallB 4 := by
    simp (maxDischargeDepth := 30) only [keyL_kf, keyR_kf, ef_addL, ef_subL, ef_mulL, ef_invL, ef_ofL, rf_addL, rf_subL, rf_mulL, rf_invL, rf_ofL, lf_kf, lf_small, lf_zero, addL_okE, subL_okE, mulL_okE, invL_okE, ofL_okE, raddL_dig, rsubL_dig, rmulL_dig, rinvL_dig, rofL_dig, keyL_length, kf_length, keyV_length, smallB_length, *]
    decide +kernel
  refine enter (n := 18) (R := fun e L => e = .returned (.bool true)) [] Try.func9 rfl rfl rfl (St.refl w) ?_ (fun e w' L' h H => ⟨h, H.kept⟩)
  refine VC_seq ?_
  refine VC_region ?_
  refine vl_v (q_assign rfl) rfl ?_
  refine vl_nil ?_
  refine (th_n ?_)
  refine VC_seq ?_
  refine VC_region ?_
  refine vl_v (q_callV Try.func23 rfl rfl rfl (fun w1 H1 => small_calls 2 w1)) rfl ?_
  refine vl_v (q_callV Try.func20 rfl rfl rfl (fun w1 H1 => inv_calls _ (by first | with_reducible assumption | (simp (maxDischargeDepth := 30) only [addL_okE, subL_okE, mulL_okE, invL_okE, ofL_okE, keyL_length, kf_length, keyV_length, smallB_length, *]; done)) w1)) rfl ?_
  refine vl_v (q_callV Try.func23 rfl rfl rfl (fun w1 H1 => small_calls 2 w1)) rfl ?_
  refine vl_v (q_callV Try.func18 rfl rfl rfl (fun w1 H1 => mul_calls _ _ (by first | with_reducible assumption | (simp (maxDischargeDepth := 30) only [addL_okE, subL_okE, mulL_okE, invL_okE, ofL_okE, keyL_length, kf_length, keyV_length, smallB_length, *]; done)) (by first | with_reducible assumption | (simp (maxDischargeDepth := 30) only [addL_okE, subL_okE, mulL_okE, invL_okE, ofL_okE, keyL_length, kf_length, keyV_length, smallB_length, *]; done)) w1)) rfl ?_
  refine l_allocA zr27 rfl ?_
  intro b1
  refine l_storeA 0 rfl rfl rfl sz27 (by first | omega | with_reducible assumption | (simp only [bys_length, u32s_length, u64s_length, i64s_length, n64s_length, List.length_append]; omega) | (simp only [List.length_set, List.length_replicate, List.length_map, List.length_append, bys_length, u32s_length, u64s_length, i64s_length, List.length_take, List.length_drop, List.length_cons, List.length_nil, *] <;> first | done | omega) | rfl) (by first | with_reducible exact bys_one _ | with_reducible exact u32s_one _ | with_reducible exact u64s_one _ | with_reducible exact i64s_one _ | with_reducible exact n64s_one _ | exact bys_one _ | exact u32s_one _ | exact u64s_one _ | exact i64s_one _ | with_reducible assumption | exact one_all rfl | (refine app_one ?_ ?_ <;> first | exact bys_one _ | (simp; done))) (by first | omega | with_reducible assumption | (simp only [bys_length, u32s_length, u64s_length, i64s_length, n64s_length, List.length_append]; omega) | (simp only [List.length_set, List.length_replicate, List.length_map, List.length_append, bys_length, u32s_length, u64s_length, i64s_length, List.length_take, List.length_drop, List.length_cons, List.length_nil, *] <;> first | done | omega) | rfl) ?_
  simp only [List.set_cons_zero, List.set_cons_succ]
  refine vl_nil ?_
  refine (th_n ?_)
  refine VC_seq ?_
  refine VC_region ?_
  first | (refine vl_v (q_loads 0 Try.underlying27 rfl rfl rfl sz27 (by first | omega | with_reducible assumption | (simp only [bys_length, u32s_length, u64s_length, i64s_length, n64s_length, List.length_append]; omega) | (simp only [List.length_set, List.length_replicate, List.length_map, List.length_append, bys_length, u32s_length, u64s_length, i64s_length, List.length_take, List.length_drop, List.length_cons, List.length_nil, *] <;> first | done | omega) | rfl)) rfl ?_) | (refine vl_v (q_loadsAt 0 Try.underlying27 rfl rfl rfl sz27 (by rfl) (by first | omega | with_reducible assumption | (simp only [bys_length, u32s_length, u64s_length, i64s_length, n64s_length, List.length_append]; omega) | (simp only [List.length_set, List.length_replicate, List.length_map, List.length_append, bys_length, u32s_length, u64s_length, i64s_length, List.length_take, List.length_drop, List.length_cons, List.length_nil, *] <;> first | done | omega) | rfl)) rfl ?_)
  refine vl_v (q_callV Try.func12 rfl rfl rfl (fun w1 H1 => key_calls _ (by first | with_reducible assumption | (simp (maxDischargeDepth := 30) only [addL_okE, subL_okE, mulL_okE, invL_okE, ofL_okE, keyL_length, kf_length, keyV_length, smallB_length, *]; done)) w1)) rfl ?_
  refine vl_v (q_build (c' := bys (smallB 1)) rfl (by kernel_rfl)) rfl ?_
  refine vl_v (q_eqT flat32 rfl rfl (fits_bys' (keyL_length _)) (congrArg bys e1)) rfl ?_
  refine vl_v (q_move rfl) rfl ?_
  refine vl_vg rfl (q_callV Try.func23 rfl rfl rfl (fun w1 H1 => small_calls 7 w1)) rfl ?_
  refine vl_vg rfl (q_callV Try.func23 rfl rfl rfl (fun w1 H1 => small_calls 3 w1)) rfl ?_
  refine vl_vg rfl (q_callV Try.func16 rfl rfl rfl (fun w1 H1 => sub_calls _ _ (by first | with_reducible assumption | (simp (maxDischargeDepth := 30) only [addL_okE, subL_okE, mulL_okE, invL_okE, ofL_okE, keyL_length, kf_length, keyV_length, smallB_length, *]; done)) (by first | with_reducible assumption | (simp (maxDischargeDepth := 30) only [addL_okE, subL_okE, mulL_okE, invL_okE, ofL_okE, keyL_length, kf_length, keyV_length, smallB_length, *]; done)) w1)) rfl ?_
  refine vl_vg rfl (q_callV Try.func12 rfl rfl rfl (fun w1 H1 => key_calls _ (by first | with_reducible assumption | (simp (maxDischargeDepth := 30) only [addL_okE, subL_okE, mulL_okE, invL_okE, ofL_okE, keyL_length, kf_length, keyV_length, smallB_length, *]; done)) w1)) rfl ?_
  refine vl_vg rfl (q_build (c' := bys (smallB 4)) rfl (by kernel_rfl)) rfl ?_
  refine vl_vg rfl (q_eqT flat32 rfl rfl (fits_bys' (keyL_length _)) (congrArg bys e2)) rfl ?_
  first | (refine vl_v (q_pickT rfl rfl) rfl ?_) | (refine vl_v (q_pickF rfl rfl) rfl ?_)
  refine vl_v (q_assign rfl) rfl ?_
  refine vl_nil ?_
  refine (th_n ?_)
  refine VC_ret ?_
  refine ⟨_, res1 rfl rfl, ?_⟩
  exact rfl
end Go.Proofs.Ytlpjhjoaafhcjaa
