/- Two have the same in common, either way: the statement KeysCommon. No condition. -/
import Derived.Test.YtbgmejpmpfkiaaaRows
import Derived.Test.YtbgmejpmpfkiaaaQ08h
namespace Go.Proofs.Ytbgmejpmpfkiaaa
open Go.RowKit Go.PBYtbgmejpmpfkiaaa
set_option linter.unusedVariables false
set_option linter.unusedSimpArgs false
set_option maxRecDepth 10000

set_option maxHeartbeats 4000000 in
theorem keysCommon.walk (w : World) (v0 : Value) (s : List UInt8) (h0 : BsArg w v0 s) (v1 : Value) (t : List UInt8) (h1 : BsArg w v1 t) :
    Calls Try.prog 5 #[v0, v1] w fun e w' => e = .returned (.bool true) ∧ Kept [] w w' := by
  obtain ⟨B, c, rfl, hc, _, hB⟩ := h0
  obtain ⟨A, k, rfl, hk, _, hA⟩ := h1
  have hp1 := fun (h : s.length ≤ 300) w hs => pair_calls s B s.length c rfl (by omega) w hs hc
  have hp2 := fun (h : t.length ≤ 300) w hs => pair_calls t A t.length k rfl (by omega) w hs hk
  have ea : pairB s = sumB s ++ pubB (sumB s) := rfl
  have eb : pairB t = sumB t ++ pubB (sumB t) := rfl
  have la := sumB_length s
  have lb := sumB_length t
  have hcm := com_two (sumB s) (sumB t)
  rw [ea] at hp1
  rw [eb] at hp2
  obtain ⟨a, ha⟩ : ∃ a, sumB s = a := ⟨_, rfl⟩
  obtain ⟨b, hb⟩ : ∃ b, sumB t = b := ⟨_, rfl⟩
  rw [ha] at hp1 la hcm
  rw [hb] at hp2 lb hcm
  have lpa := pubB_length a
  have lpb := pubB_length b
  obtain ⟨pa, hpa⟩ : ∃ p, pubB a = p := ⟨_, rfl⟩
  obtain ⟨pb, hpb⟩ : ∃ p, pubB b = p := ⟨_, rfl⟩
  rw [hpa] at hp1 lpa hcm
  rw [hpb] at hp2 lpb hcm
  have hc1 := fun w => com_calls a pa pb la lpa lpb w
  have hc2 := fun w => com_calls b pb pa lb lpb lpa w
  rw [hcm] at hc1
  have lr := comB_length b pa
  obtain ⟨r, hr⟩ : ∃ r, comB b pa = r := ⟨_, rfl⟩
  rw [hr] at hc1 hc2 lr
  clear hcm hr hpa hpb ha hb ea eb
  have lbr : (bys r).length = 32 := by rw [bys_length]; exact lr
  have l1 : (bys (a ++ pa)).length = 64 := by rw [bys_length, List.length_append]; omega
  have l2 : (bys (b ++ pb)).length = 64 := by rw [bys_length, List.length_append]; omega
  have lba : (bys pa).length = 32 := by rw [bys_length]; exact lpa
  have lbb : (bys pb).length = 32 := by rw [bys_length]; exact lpb
  have d1 : ((bys (a ++ pa)).drop 32).take 32 = bys pa := by rw [bys_append, List.drop_left' (by rw [bys_length]; exact la), List.take_of_length_le (by omega)]
  have d2 : ((bys (b ++ pb)).drop 32).take 32 = bys pb := by rw [bys_append, List.drop_left' (by rw [bys_length]; exact lb), List.take_of_length_le (by omega)]
  have lz : (bys (List.replicate 32 0)).length = 32 := by rw [bys_length, List.length_replicate]
  have lz2 : (bys (List.replicate 32 0) ++ bys (List.replicate 32 0)).length = 64 := by rw [List.length_append, lz]
  refine enter (n := 51) (R := fun e L => e = .returned (.bool true)) [.slice B s.length c, .slice A t.length k] Try.func5 rfl rfl rfl (St.refl w) ?_ (fun e w' L' h H => ⟨h, H.kept⟩)
  refine VC_seq ?_
  refine VC_region ?_
  refine vl_v (q_assign rfl) rfl ?_
  refine vl_nil ?_
  refine (th_n ?_)
  refine VC_seq ?_
  refine VC_region ?_
  refine vl_v (q_callV Try.func8 rfl rfl rfl (fun w1 H1 => awake8_calls w1)) rfl ?_
  refine vl_v (q_assign rfl) rfl ?_
  refine vl_nil ?_
  refine (th_n ?_)
  refine VC_seq ?_
  refine VC_seq ?_
  refine VC_region ?_
  refine vl_v (q_move rfl) rfl ?_
  refine vl_v (q_lenS Try.underlying22 rfl) rfl ?_
  refine vl_v (q_gtr_n (q := 300) Try.underlying3 rfl rfl) rfl ?_
  by_cases hs15 : 300 < s.length
  · skip
    rw [show decide (300 < s.length) = true from decide_eq_true hs15]
    refine vl_v (q_move rfl) rfl ?_
    refine vl_skip rfl rfl ?_
    refine vl_skip rfl rfl ?_
    refine vl_skip rfl rfl ?_
    first | (refine vl_v (q_pickT rfl rfl) rfl ?_) | (refine vl_v (q_pickF rfl rfl) rfl ?_)
    refine vl_nil ?_
    refine (th_n ?_)
    refine VC_yes (rfl) ?_
    refine VC_seq ?_
    refine VC_region ?_
    refine vl_v (q_move rfl) rfl ?_
    refine vl_v (q_assign rfl) rfl ?_
    refine vl_nil ?_
    refine (th_n ?_)
    refine VC_ret ?_
    refine (th_r ?_)
    refine ⟨_, res1 rfl rfl, ?_⟩
    exact rfl
  · skip
    rw [show decide (300 < s.length) = false from decide_eq_false hs15]
    refine vl_v (q_move rfl) rfl ?_
    refine vl_vg rfl (q_move rfl) rfl ?_
    refine vl_vg rfl (q_lenS Try.underlying22 rfl) rfl ?_
    first | (refine vl_vg rfl (q_gtr_n (q := 300) Try.underlying3 rfl rfl) rfl ?_) | (refine vl_vg rfl (q_gtr_k Try.underlying3 rfl rfl) rfl ?_)
    first | (refine vl_v (q_pickT rfl rfl) rfl ?_) | (refine vl_v (q_pickF rfl rfl) rfl ?_)
    refine vl_nil ?_
    refine (th_n ?_)
    refine VC_cond rfl (fun ht20 => ?_) (fun ht20 => ?_)
    · skip
      have ht20 := of_decide_eq_true ht20
      refine VC_seq ?_
      refine VC_region ?_
      refine vl_v (q_move rfl) rfl ?_
      refine vl_v (q_assign rfl) rfl ?_
      refine vl_nil ?_
      refine (th_n ?_)
      refine VC_ret ?_
      refine (th_r ?_)
      refine ⟨_, res1 rfl rfl, ?_⟩
      exact rfl
    · skip
      have ht20 := of_decide_eq_false ht20
      refine VC_skip ?_
      refine (th_n ?_)
      refine VC_seq ?_
      refine VC_region ?_
      refine vl_v (q_move rfl) rfl ?_
      refine vl_v (q_callV Try.func15 rfl rfl rfl (fun w1 H1 => hp1 (by omega) w1 (Reads.old hB w1 H1))) rfl ?_
      refine l_allocA zr33 rfl ?_
      intro b6
      refine l_storeA 0 rfl rfl rfl sz33 (by first | with_reducible assumption | omega | exact lz | exact lz2) (by first | (with_reducible first | exact bys_one _ | exact u32s_one _ | exact u64s_one _ | exact i64s_one _ | exact n64s_one _ | assumption) | exact bys_one _ | exact u32s_one _ | exact u64s_one _ | exact i64s_one _ | exact one_all rfl | (refine app_one ?_ ?_ <;> first | exact bys_one _ | exact one_all rfl | (simp; done))) (by first | with_reducible assumption | omega | exact lz | exact lz2) ?_
      simp only [List.set_cons_zero, List.set_cons_succ]
      refine vl_nil ?_
      refine (th_n ?_)
      refine VC_seq ?_
      refine VC_region ?_
      refine vl_v (q_move rfl) rfl ?_
      refine vl_v (q_callV Try.func15 rfl rfl rfl (fun w1 H1 => hp2 (by omega) w1 (Reads.old hA w1 H1))) rfl ?_
      refine l_allocA zr33 rfl ?_
      intro b7
      refine l_storeA 0 rfl rfl rfl sz33 (by first | with_reducible assumption | omega | exact lz | exact lz2) (by first | (with_reducible first | exact bys_one _ | exact u32s_one _ | exact u64s_one _ | exact i64s_one _ | exact n64s_one _ | assumption) | exact bys_one _ | exact u32s_one _ | exact u64s_one _ | exact i64s_one _ | exact one_all rfl | (refine app_one ?_ ?_ <;> first | exact bys_one _ | exact one_all rfl | (simp; done))) (by first | with_reducible assumption | omega | exact lz | exact lz2) ?_
      simp only [List.set_cons_zero, List.set_cons_succ]
      refine vl_nil ?_
      refine (th_n ?_)
      refine VC_seq ?_
      refine VC_region ?_
      first | (refine vl_v (q_loads 1 Try.underlying33 rfl rfl rfl sz33 (by first | with_reducible assumption | omega | exact lz | exact lz2)) rfl ?_) | (refine vl_v (q_loadsAt 1 Try.underlying33 rfl rfl rfl sz33 (by rfl) (by first | with_reducible assumption | omega | exact lz | exact lz2)) rfl ?_)
      refine vl_v (q_fldA fo33_1 (by decide) rfl rfl) rfl ?_
      refine vl_v (q_loadsAt 0 Try.underlying27 rfl rfl rfl sz27 d2 lbb) rfl ?_
      refine vl_v (q_callV Try.func13 rfl rfl rfl (fun w1 H1 => hc1 w1)) rfl ?_
      refine vl_v (q_move rfl) rfl ?_
      refine vl_v (q_ext rfl rfl) rfl ?_
      refine vl_v (q_ext rfl rfl) rfl ?_
      refine l_allocA zr27 rfl ?_
      intro b8
      refine l_storeA 0 rfl rfl rfl sz27 (by first | with_reducible assumption | omega | exact lz | exact lz2) (by first | (with_reducible first | exact bys_one _ | exact u32s_one _ | exact u64s_one _ | exact i64s_one _ | exact n64s_one _ | assumption) | exact bys_one _ | exact u32s_one _ | exact u64s_one _ | exact i64s_one _ | exact one_all rfl | (refine app_one ?_ ?_ <;> first | exact bys_one _ | exact one_all rfl | (simp; done))) (by first | with_reducible assumption | omega | exact lz | exact lz2) ?_
      simp only [List.set_cons_zero, List.set_cons_succ]
      refine vl_v (q_assign rfl) rfl ?_
      refine vl_nil ?_
      refine (th_n ?_)
      refine VC_seq ?_
      refine VC_region ?_
      first | (refine vl_v (q_loads 1 Try.underlying33 rfl rfl rfl sz33 (by first | with_reducible assumption | omega | exact lz | exact lz2)) rfl ?_) | (refine vl_v (q_loadsAt 1 Try.underlying33 rfl rfl rfl sz33 (by rfl) (by first | with_reducible assumption | omega | exact lz | exact lz2)) rfl ?_)
      refine vl_v (q_fldA fo33_1 (by decide) rfl rfl) rfl ?_
      refine vl_v (q_loadsAt 2 Try.underlying27 rfl rfl rfl sz27 d1 lba) rfl ?_
      refine vl_v (q_callV Try.func13 rfl rfl rfl (fun w1 H1 => hc2 w1)) rfl ?_
      refine vl_v (q_move rfl) rfl ?_
      refine vl_v (q_ext rfl rfl) rfl ?_
      refine vl_v (q_ext rfl rfl) rfl ?_
      refine l_allocA zr27 rfl ?_
      intro b10
      refine l_storeA 0 rfl rfl rfl sz27 (by first | with_reducible assumption | omega | exact lz | exact lz2) (by first | (with_reducible first | exact bys_one _ | exact u32s_one _ | exact u64s_one _ | exact i64s_one _ | exact n64s_one _ | assumption) | exact bys_one _ | exact u32s_one _ | exact u64s_one _ | exact i64s_one _ | exact one_all rfl | (refine app_one ?_ ?_ <;> first | exact bys_one _ | exact one_all rfl | (simp; done))) (by first | with_reducible assumption | omega | exact lz | exact lz2) ?_
      simp only [List.set_cons_zero, List.set_cons_succ]
      refine vl_v (q_assign rfl) rfl ?_
      refine vl_nil ?_
      refine (th_n ?_)
      refine VC_seq ?_
      refine VC_region ?_
      refine vl_v (q_move rfl) rfl ?_
      refine vl_v (q_move rfl) rfl ?_
      first | (refine vl_vg rfl (q_loads 1 Try.underlying27 rfl rfl rfl sz27 (by first | with_reducible assumption | omega | exact lz | exact lz2)) rfl ?_) | (refine vl_vg rfl (q_loadsAt 1 Try.underlying27 rfl rfl rfl sz27 (by rfl) (by first | with_reducible assumption | omega | exact lz | exact lz2)) rfl ?_)
      first | (refine vl_vg rfl (q_loads 0 Try.underlying27 rfl rfl rfl sz27 (by first | with_reducible assumption | omega | exact lz | exact lz2)) rfl ?_) | (refine vl_vg rfl (q_loadsAt 0 Try.underlying27 rfl rfl rfl sz27 (by rfl) (by first | with_reducible assumption | omega | exact lz | exact lz2)) rfl ?_)
      refine vl_vg rfl (q_eqT flat32 rfl rfl (fits_bys' lr) rfl) rfl ?_
      first | (refine vl_v (q_pickT rfl rfl) rfl ?_) | (refine vl_v (q_pickF rfl rfl) rfl ?_)
      refine vl_v (q_move rfl) rfl ?_
      refine vl_vg rfl (q_move rfl) rfl ?_
      refine vl_vg rfl (q_move rfl) rfl ?_
      refine vl_vg rfl (q_true (q_eql_n Try.underlying34 rfl rfl) (decide_eq_true rfl)) rfl ?_
      first | (refine vl_v (q_pickT rfl rfl) rfl ?_) | (refine vl_v (q_pickF rfl rfl) rfl ?_)
      refine vl_v (q_assign rfl) rfl ?_
      refine vl_nil ?_
      refine (th_n ?_)
      refine VC_ret ?_
      refine ⟨_, res1 rfl rfl, ?_⟩
      exact rfl

namespace keysCommon
open Go.ChangeShapes Go.WideShapes Go.ChangeAt Go.RowKit
theorem own : ownKnob Try.prog.godebug = none := by kernel_rfl
theorem laidOut : laidOutB Try.prog = true := by kernel_rfl
set_option maxRecDepth 100000 in
theorem lifted (os : Os) (started : os.Started) (H : Type) (enc : TypeId × Value → H) :
    ReturnsInHanded {} Try.checked os 5 .any (Rows.keysCommonSpec.pre6 enc Try.prog Try.f5 Rows.keysCommonRow.domain false) (Rows.keysCommonSpec.post enc Try.prog Try.f5 false true false false) := by
  refine returnsInHanded_of_change (C := Try.checked) own started (by kernel_rfl) Try.func5
    (ChangeSpec.witness6 (enc := enc) (C := Try.checked) false ⟨#[], #[.slice none 0 0, .slice none 0 0], []⟩ 8 (by kernel_rfl) (by kernel_rfl) (by kernel_rfl) (by kernel_rfl)) ?_
  intro W base args ds gs before hval0 hW hcnd _
  have hval : ∀ (j : Nat) t v, Try.f5.params[j]? = some t → args[j]? = some v → Value.okWide Try.prog W .any base t v := hval0
  have hW' := hW
  obtain ⟨p, q, hA0, hV, rfl, hfz, hnd⟩ := hW
  have hA : DataW.TrodAll enc Try.prog W 0 (fun _ => true) true Try.f5.params.toList args.toList ds p := hA0
  rw [Try.params5] at hA hval
  obtain ⟨v0, vs0, d0, ds0, p0, q0, hargs, rfl, rfl, h0, r0⟩ := trodAll_cons hA
  obtain ⟨v1, vs1, d1, ds1, p1, q1, rfl, rfl, rfl, h1, r1⟩ := trodAll_cons r0
  obtain ⟨rfl, rfl, rfl⟩ := trodAll_nil r1
  obtain rfl : args = #[v0, v1] := by cases args; simp_all
  obtain ⟨rfl, rfl⟩ := trodVars_none hV
  have k0 := h0
  have lt0 : ∀ x ∈ p0, x.block < W.heap.size := by obtain ⟨m, hm⟩ := k0; exact DataW.trod_lt m _ _ _ hm
  have k1 := h1
  have lt1 : ∀ x ∈ p1, x.block < W.heap.size := by obtain ⟨m, hm⟩ := k1; exact DataW.trod_lt m _ _ _ hm
  obtain ⟨l0, g0⟩ := open_bytes Try.underlying22 Try.underlying5 (by kernel_rfl) (hval 0 22 v0 rfl rfl) h0
  obtain ⟨l1, g1⟩ := open_bytes Try.underlying22 Try.underlying5 (by kernel_rfl) (hval 1 22 v1 rfl rfl) h1
  clear hA0 hval0
  refine (keysCommon.walk W v0 l0 g0 v1 l1 g1).mono fun e W' ⟨he, hK⟩ => ?_
  subst he
  have bel := hK.below
  exact ⟨_, rfl, _, _, _, [], _, [], hW', trodAll_mk1 (shut_bool Try.underlying4 _), (trodAll_cons_mk (Below.trod laidOut (by kernel_rfl) (of_decide_eq_true (by kernel_rfl)) k0 bel lt0) (trodAll_cons_mk (Below.trod laidOut (by kernel_rfl) (of_decide_eq_true (by kernel_rfl)) k1 bel lt1) trodAll_mk0)), rfl, bel.frame _, fun h => by cases h⟩
theorem over : Rows.keysCommonRow.holds Try.pinned (OpenSpec.ofChange Rows.keysCommonSpec) :=
  OpenClaim.holds_of_wide 5 Try.f5 rfl rfl rfl rfl rfl rfl rfl ⟨rfl, rfl, rfl, rfl, rfl⟩ rfl rfl rfl rfl rfl (by kernel_rfl) Try.func5 (by kernel_rfl)
    (of_decide_eq_true (by kernel_rfl)) (by unfold Func.isWrapper; first | (rw [if_pos (by decide +kernel)]; kernel_rfl) | (rw [if_neg (by decide +kernel)]; exact ⟨rfl, rfl⟩))
    (fun os started H enc _ => lifted os started H enc)
theorem proved : Rows.KeysCommonSaid := over
end keysCommon
/-- The row. -/
theorem keysCommon_holds : Rows.KeysCommonSaid := keysCommon.proved
#print axioms keysCommon_holds
end Go.Proofs.Ytbgmejpmpfkiaaa
