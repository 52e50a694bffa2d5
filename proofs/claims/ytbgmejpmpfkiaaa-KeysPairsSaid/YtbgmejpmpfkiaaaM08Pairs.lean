/- Any seed's pair, and what any two have in common: the statement KeysPairs. No condition. -/
import Derived.Test.YtbgmejpmpfkiaaaRows
import Derived.Test.YtbgmejpmpfkiaaaQ08h
namespace Go.Proofs.Ytbgmejpmpfkiaaa
open Go.RowKit Go.PBYtbgmejpmpfkiaaa
set_option linter.unusedVariables false
set_option linter.unusedSimpArgs false
set_option maxRecDepth 10000

set_option maxHeartbeats 4000000 in
theorem keysPairs.walk (w : World) (v0 : Value) (s : List UInt8) (h0 : BsArg w v0 s) (v1 : Value) (o : List UInt8) (h1 : PairV v1 o) (v2 : Value) (q : List UInt8) (h2 : KeyV v2 q) :
    Calls Try.prog 4 #[v0, v1, v2] w fun e w' => e = .returned (.bool true) ∧ Kept [] w w' := by
  obtain ⟨B, c, rfl, hc, _, hB⟩ := h0
  obtain ⟨rfl, ho⟩ := h1
  obtain ⟨rfl, hq⟩ := h2
  have e0 : o = o.take 32 ++ o.drop 32 := (List.take_append_drop 32 o).symm
  have ha : (o.take 32).length = 32 := by simp; omega
  have hb : (o.drop 32).length = 32 := by simp; omega
  have hc1 := fun w => com_calls (o.take 32) (o.drop 32) q ha hb hq w
  have hc2 := fun w => rcom_calls (o.take 32) (o.drop 32) q ha hb hq w
  rw [← e0] at hc1 hc2
  have lr := comB_length (o.take 32) q
  obtain ⟨r, hr⟩ : ∃ r, comB (o.take 32) q = r := ⟨_, rfl⟩
  rw [hr] at hc1 hc2 lr
  have lbr : (bys r).length = 32 := by rw [bys_length]; exact lr
  have lbo : (bys o).length = 64 := by rw [bys_length]; exact ho
  have lbq : (bys q).length = 32 := by rw [bys_length]; exact hq
  have hp1 := fun (h : s.length ≤ 300) w hs => pair_calls s B s.length c rfl (by omega) w hs hc
  have hp2 := fun (h : s.length ≤ 300) w hs => rpair_calls s B s.length c rfl (by omega) w hs hc
  have lp := pairB_length s
  obtain ⟨p, hp⟩ : ∃ p, pairB s = p := ⟨_, rfl⟩
  rw [hp] at hp1 hp2 lp
  have lz : (bys (List.replicate 32 0)).length = 32 := by rw [bys_length, List.length_replicate]
  have lz2 : (bys (List.replicate 32 0) ++ bys (List.replicate 32 0)).length = 64 := by rw [List.length_append, lz]
  refine enter (n := 47) (R := fun e L => e = .returned (.bool true)) [.slice B s.length c, .agg (bys o).toArray, .agg (bys q).toArray] Try.func4 rfl rfl rfl (St.refl w) ?_ (fun e w' L' h H => ⟨h, H.kept⟩)
  refine VC_seq ?_
  refine VC_region ?_
  refine l_boxA rfl rfl ?_
  intro b4
  refine l_boxA rfl rfl ?_
  intro b5
  refine vl_v (q_assign rfl) rfl ?_
  refine vl_nil ?_
  refine (th_n ?_)
  refine VC_seq ?_
  refine VC_region ?_
  refine vl_v (q_callV Try.func8 rfl rfl rfl (fun w1 H1 => awake8_calls w1)) rfl ?_
  refine vl_v (q_assign rfl) rfl ?_
  refine vl_nil ?_
  refine (th_n ?_)
  refine VC_seq ?_
  refine VC_seq ?_
  refine VC_region ?_
  refine vl_v (q_move rfl) rfl ?_
  refine vl_v (q_lenS Try.underlying22 rfl) rfl ?_
  first | (refine vl_v (q_gtr_n (q := 300) Try.underlying3 rfl rfl) rfl ?_) | (refine vl_v (q_gtr_k Try.underlying3 rfl rfl) rfl ?_)
  refine vl_nil ?_
  refine (th_n ?_)
  refine VC_cond rfl (fun ht15 => ?_) (fun ht15 => ?_)
  · skip
    have ht15 := of_decide_eq_true ht15
    refine VC_seq ?_
    refine VC_region ?_
    refine vl_v (q_move rfl) rfl ?_
    refine vl_v (q_assign rfl) rfl ?_
    refine vl_nil ?_
    refine (th_n ?_)
    refine VC_ret ?_
    refine (th_r ?_)
    refine ⟨_, res1 rfl rfl, ?_⟩
    exact rfl
  · skip
    have ht15 := of_decide_eq_false ht15
    refine VC_skip ?_
    refine (th_n ?_)
    refine VC_seq ?_
    refine VC_region ?_
    first | (refine vl_v (q_loads 1 Try.underlying33 rfl rfl rfl sz33 (by first | with_reducible assumption | omega | exact lz)) rfl ?_) | (refine vl_v (q_loadsAt 1 Try.underlying33 rfl rfl rfl sz33 (by rfl) (by first | with_reducible assumption | omega | exact lz)) rfl ?_)
    first | (refine vl_v (q_loads 0 Try.underlying27 rfl rfl rfl sz27 (by first | with_reducible assumption | omega | exact lz)) rfl ?_) | (refine vl_v (q_loadsAt 0 Try.underlying27 rfl rfl rfl sz27 (by rfl) (by first | with_reducible assumption | omega | exact lz)) rfl ?_)
    refine vl_v (q_callV Try.func13 rfl rfl rfl (fun w1 H1 => hc1 w1)) rfl ?_
    refine vl_v (q_move rfl) rfl ?_
    refine vl_v (q_ext rfl rfl) rfl ?_
    refine vl_v (q_ext rfl rfl) rfl ?_
    refine l_allocA zr27 rfl ?_
    intro b8
    refine l_storeA 0 rfl rfl rfl sz27 (by first | with_reducible assumption | omega | exact lz) (by first | (with_reducible first | exact bys_one _ | exact u32s_one _ | exact u64s_one _ | exact i64s_one _ | exact n64s_one _ | assumption) | exact bys_one _ | exact u32s_one _ | exact u64s_one _ | exact i64s_one _ | exact one_all rfl | (refine app_one ?_ ?_ <;> first | exact bys_one _ | exact one_all rfl | (simp; done))) (by first | with_reducible assumption | omega | exact lz) ?_
    simp only [List.set_cons_zero, List.set_cons_succ]
    refine vl_v (q_assign rfl) rfl ?_
    refine vl_nil ?_
    refine (th_n ?_)
    refine VC_seq ?_
    refine VC_region ?_
    first | (refine vl_v (q_loads 2 Try.underlying33 rfl rfl rfl sz33 (by first | with_reducible assumption | omega | exact lz)) rfl ?_) | (refine vl_v (q_loadsAt 2 Try.underlying33 rfl rfl rfl sz33 (by rfl) (by first | with_reducible assumption | omega | exact lz)) rfl ?_)
    first | (refine vl_v (q_loads 1 Try.underlying27 rfl rfl rfl sz27 (by first | with_reducible assumption | omega | exact lz)) rfl ?_) | (refine vl_v (q_loadsAt 1 Try.underlying27 rfl rfl rfl sz27 (by rfl) (by first | with_reducible assumption | omega | exact lz)) rfl ?_)
    refine vl_v (q_callV Try.func14 rfl rfl rfl (fun w1 H1 => hc2 w1)) rfl ?_
    refine vl_v (q_move rfl) rfl ?_
    refine vl_v (q_ext rfl rfl) rfl ?_
    refine vl_v (q_ext rfl rfl) rfl ?_
    refine l_allocA zr27 rfl ?_
    intro b10
    refine l_storeA 0 rfl rfl rfl sz27 (by first | with_reducible assumption | omega | exact lz) (by first | (with_reducible first | exact bys_one _ | exact u32s_one _ | exact u64s_one _ | exact i64s_one _ | exact n64s_one _ | assumption) | exact bys_one _ | exact u32s_one _ | exact u64s_one _ | exact i64s_one _ | exact one_all rfl | (refine app_one ?_ ?_ <;> first | exact bys_one _ | exact one_all rfl | (simp; done))) (by first | with_reducible assumption | omega | exact lz) ?_
    simp only [List.set_cons_zero, List.set_cons_succ]
    refine vl_v (q_assign rfl) rfl ?_
    refine vl_nil ?_
    refine (th_n ?_)
    refine VC_seq ?_
    refine VC_region ?_
    refine vl_v (q_move rfl) rfl ?_
    refine vl_v (q_move rfl) rfl ?_
    refine vl_vg rfl (q_move rfl) rfl ?_
    refine vl_vg rfl (q_callV Try.func15 rfl rfl rfl (fun w1 H1 => hp1 (by omega) w1 (Reads.old hB w1 H1))) rfl ?_
    refine vl_vg rfl (q_move rfl) rfl ?_
    refine vl_vg rfl (q_callV Try.func16 rfl rfl rfl (fun w1 H1 => hp2 (by omega) w1 (Reads.old hB w1 H1))) rfl ?_
    refine vl_vg rfl (q_eqT flat64 rfl rfl (fits_bys' lp) rfl) rfl ?_
    first | (refine vl_v (q_pickT rfl rfl) rfl ?_) | (refine vl_v (q_pickF rfl rfl) rfl ?_)
    refine vl_v (q_move rfl) rfl ?_
    first | (refine vl_vg rfl (q_loads 1 Try.underlying27 rfl rfl rfl sz27 (by first | with_reducible assumption | omega | exact lz)) rfl ?_) | (refine vl_vg rfl (q_loadsAt 1 Try.underlying27 rfl rfl rfl sz27 (by rfl) (by first | with_reducible assumption | omega | exact lz)) rfl ?_)
    first | (refine vl_vg rfl (q_loads 0 Try.underlying27 rfl rfl rfl sz27 (by first | with_reducible assumption | omega | exact lz)) rfl ?_) | (refine vl_vg rfl (q_loadsAt 0 Try.underlying27 rfl rfl rfl sz27 (by rfl) (by first | with_reducible assumption | omega | exact lz)) rfl ?_)
    refine vl_vg rfl (q_eqT flat32 rfl rfl (fits_bys' lr) rfl) rfl ?_
    first | (refine vl_v (q_pickT rfl rfl) rfl ?_) | (refine vl_v (q_pickF rfl rfl) rfl ?_)
    refine vl_v (q_move rfl) rfl ?_
    refine vl_vg rfl (q_move rfl) rfl ?_
    refine vl_vg rfl (q_move rfl) rfl ?_
    refine vl_vg rfl (q_true (q_eql_n Try.underlying34 rfl rfl) (decide_eq_true rfl)) rfl ?_
    first | (refine vl_v (q_pickT rfl rfl) rfl ?_) | (refine vl_v (q_pickF rfl rfl) rfl ?_)
    refine vl_v (q_assign rfl) rfl ?_
    refine vl_nil ?_
    refine (th_n ?_)
    refine VC_ret ?_
    refine ⟨_, res1 rfl rfl, ?_⟩
    exact rfl

namespace keysPairs
open Go.ChangeShapes Go.WideShapes Go.ChangeAt Go.RowKit
theorem own : ownKnob Try.prog.godebug = none := by kernel_rfl
theorem laidOut : laidOutB Try.prog = true := by kernel_rfl
set_option maxRecDepth 100000 in
theorem lifted (os : Os) (started : os.Started) (H : Type) (enc : TypeId × Value → H) :
    ReturnsInHanded {} Try.checked os 4 .any (Rows.keysPairsSpec.pre6 enc Try.prog Try.f4 Rows.keysPairsRow.domain false) (Rows.keysPairsSpec.post enc Try.prog Try.f4 false true false false) := by
  refine returnsInHanded_of_change (C := Try.checked) own started (by kernel_rfl) Try.func4
    (ChangeSpec.witness6 (enc := enc) (C := Try.checked) false ⟨#[], #[.slice none 0 0, (.agg (List.replicate 64 (Value.int .u8 0)).toArray), (.agg (List.replicate 32 (Value.int .u8 0)).toArray)], []⟩ 8 (by kernel_rfl) (by kernel_rfl) (by kernel_rfl) (by kernel_rfl)) ?_
  intro W base args ds gs before hval0 hW hcnd _
  have hval : ∀ (j : Nat) t v, Try.f4.params[j]? = some t → args[j]? = some v → Value.okWide Try.prog W .any base t v := hval0
  have hW' := hW
  obtain ⟨p, q, hA0, hV, rfl, hfz, hnd⟩ := hW
  have hA : DataW.TrodAll enc Try.prog W 0 (fun _ => true) true Try.f4.params.toList args.toList ds p := hA0
  rw [Try.params4] at hA hval
  obtain ⟨v0, vs0, d0, ds0, p0, q0, hargs, rfl, rfl, h0, r0⟩ := trodAll_cons hA
  obtain ⟨v1, vs1, d1, ds1, p1, q1, rfl, rfl, rfl, h1, r1⟩ := trodAll_cons r0
  obtain ⟨v2, vs2, d2, ds2, p2, q2, rfl, rfl, rfl, h2, r2⟩ := trodAll_cons r1
  obtain ⟨rfl, rfl, rfl⟩ := trodAll_nil r2
  obtain rfl : args = #[v0, v1, v2] := by cases args; simp_all
  obtain ⟨rfl, rfl⟩ := trodVars_none hV
  have k0 := h0
  have lt0 : ∀ x ∈ p0, x.block < W.heap.size := by obtain ⟨m, hm⟩ := k0; exact DataW.trod_lt m _ _ _ hm
  have k1 := h1
  have lt1 : ∀ x ∈ p1, x.block < W.heap.size := by obtain ⟨m, hm⟩ := k1; exact DataW.trod_lt m _ _ _ hm
  have k2 := h2
  have lt2 : ∀ x ∈ p2, x.block < W.heap.size := by obtain ⟨m, hm⟩ := k2; exact DataW.trod_lt m _ _ _ hm
  obtain ⟨l0, g0⟩ := open_bytes Try.underlying22 Try.underlying5 (by kernel_rfl) (hval 0 22 v0 rfl rfl) h0
  obtain ⟨cs1, e1, f1⟩ := open_flat (ks := (List.replicate 64 .u8)) 6 (by kernel_rfl) (by kernel_rfl) (hval 1 33 v1 rfl rfl) h1
  subst e1
  obtain ⟨l1, g1⟩ := open_pair f1
  obtain ⟨cs2, e2, f2⟩ := open_flat (ks := (List.replicate 32 .u8)) 6 (by kernel_rfl) (by kernel_rfl) (hval 2 27 v2 rfl rfl) h2
  subst e2
  obtain ⟨l2, g2⟩ := open_key f2
  clear hA0 hval0
  refine (keysPairs.walk W v0 l0 g0 _ l1 g1 _ l2 g2).mono fun e W' ⟨he, hK⟩ => ?_
  subst he
  have bel := hK.below
  exact ⟨_, rfl, _, _, _, [], _, [], hW', trodAll_mk1 (shut_bool Try.underlying4 _), (trodAll_cons_mk (Below.trod laidOut (by kernel_rfl) (of_decide_eq_true (by kernel_rfl)) k0 bel lt0) (trodAll_cons_mk (Below.trod laidOut (by kernel_rfl) (of_decide_eq_true (by kernel_rfl)) k1 bel lt1) (trodAll_cons_mk (Below.trod laidOut (by kernel_rfl) (of_decide_eq_true (by kernel_rfl)) k2 bel lt2) trodAll_mk0))), rfl, bel.frame _, fun h => by cases h⟩
theorem over : Rows.keysPairsRow.holds Try.pinned (OpenSpec.ofChange Rows.keysPairsSpec) :=
  OpenClaim.holds_of_wide 4 Try.f4 rfl rfl rfl rfl rfl rfl rfl ⟨rfl, rfl, rfl, rfl, rfl⟩ rfl rfl rfl rfl rfl (by kernel_rfl) Try.func4 (by kernel_rfl)
    (of_decide_eq_true (by kernel_rfl)) (by unfold Func.isWrapper; first | (rw [if_pos (by decide +kernel)]; kernel_rfl) | (rw [if_neg (by decide +kernel)]; exact ⟨rfl, rfl⟩))
    (fun os started H enc _ => lifted os started H enc)
theorem proved : Rows.KeysPairsSaid := over
end keysPairs
/-- The row. -/
theorem keysPairs_holds : Rows.KeysPairsSaid := keysPairs.proved
#print axioms keysPairs_holds
end Go.Proofs.Ytbgmejpmpfkiaaa
