/- The key that comes of any keys, for who begins: the statement AgreeBegins. No condition. -/
import Derived.Test.YtabmfndiepmcgaaRows
import Derived.Test.YtabmfndiepmcgaaQ09h
namespace Go.Proofs.Ytabmfndiepmcgaa
open Go.RowKit Go.PBYtabmfndiepmcgaa
set_option linter.unusedVariables false
set_option linter.unusedSimpArgs false
set_option maxRecDepth 10000

set_option maxHeartbeats 2000000 in
theorem begins_true (id fr i s c : List UInt8) (hid : id.length = 64) (hfr : fr.length = 64) (hi : i.length = 32) (hs : s.length = 32) (hc : c.length = 32) (w : World) :
    Calls Try.prog 3 #[.agg (bys id).toArray, .agg (bys fr).toArray, .agg (c3 i s c true).toArray] w fun e w' => e = .returned (.bool true) ∧ Kept [] w w' := by
  have hB := fun w => abegin_true_calls id fr i s c hid hfr hi hs hc w
  have hR := fun w => rbegin_true_calls id fr i s c hid hfr hi hs hc w
  have lk := agK_length [(id, s), (fr, i), (fr, s), (fr, c)]
  obtain ⟨k, ek⟩ : ∃ k, agK [(id, s), (fr, i), (fr, s), (fr, c)] = k := ⟨_, rfl⟩
  obtain ⟨b, eb⟩ : ∃ b, badL [(id, s), (fr, i), (fr, s), (fr, c)] = b := ⟨_, rfl⟩
  rw [ek, eb] at hB hR
  rw [ek] at lk
  clear ek eb
  have f0 := (c3_f (h := true) hi hs hc).len
  obtain ⟨bu, hbu⟩ : ∃ l, c3 i s c true = l := ⟨_, rfl⟩
  rw [hbu] at hB hR f0 ⊢
  have bk : (bys k).length = 32 := by rw [bys_length]; exact lk
  have l1 : (bys id).length = 64 := by rw [bys_length]; exact hid
  have l2 : (bys fr).length = 64 := by rw [bys_length]; exact hfr
  have lz : (bys (List.replicate 32 0)).length = 32 := by rw [bys_length, List.length_replicate]
  refine enter (n := 38) (R := fun e L => e = .returned (.bool true)) [.agg (bys id).toArray, .agg (bys fr).toArray, .agg bu.toArray] Try.func3 rfl rfl rfl (St.refl w) ?_ (fun e w' L' h H => ⟨h, H.kept⟩)
  refine VC_seq ?_
  refine VC_region ?_
  refine l_boxA rfl rfl ?_
  intro b3
  refine l_boxA rfl rfl ?_
  intro b4
  refine l_boxA rfl rfl ?_
  intro b5
  refine vl_v (q_assign rfl) rfl ?_
  refine vl_nil ?_
  refine (th_n ?_)
  refine VC_seq ?_
  refine VC_region ?_
  refine vl_v (q_callV Try.func7 rfl rfl rfl (fun w1 H1 => awake9_calls w1)) rfl ?_
  refine vl_v (q_assign rfl) rfl ?_
  refine vl_nil ?_
  refine (th_n ?_)
  refine VC_seq ?_
  refine VC_region ?_
  first | (refine vl_v (q_loads 2 Try.underlying25 rfl rfl rfl sz25 (by first | with_reducible assumption | omega | exact lz)) rfl ?_) | (refine vl_v (q_loadsAt 2 Try.underlying25 rfl rfl rfl sz25 (by rfl) (by first | with_reducible assumption | omega | exact lz)) rfl ?_)
  first | (refine vl_v (q_loads 1 Try.underlying25 rfl rfl rfl sz25 (by first | with_reducible assumption | omega | exact lz)) rfl ?_) | (refine vl_v (q_loadsAt 1 Try.underlying25 rfl rfl rfl sz25 (by rfl) (by first | with_reducible assumption | omega | exact lz)) rfl ?_)
  first | (refine vl_v (q_loads 0 Try.underlying27 rfl rfl rfl sz27 (by first | with_reducible assumption | omega | exact lz)) rfl ?_) | (refine vl_v (q_loadsAt 0 Try.underlying27 rfl rfl rfl sz27 (by rfl) (by first | with_reducible assumption | omega | exact lz)) rfl ?_)
  refine vl_v (q_callV Try.func8 rfl rfl rfl (fun w1 H1 => hB w1)) rfl ?_
  refine vl_v (q_move rfl) rfl ?_
  refine vl_v (q_ext rfl rfl) rfl ?_
  refine vl_v (q_ext rfl rfl) rfl ?_
  refine l_allocA zr23 rfl ?_
  intro b8
  refine l_storeA 0 rfl rfl rfl sz23 (by first | with_reducible assumption | omega | exact lz) (by first | (with_reducible first | exact bys_one _ | exact u32s_one _ | exact u64s_one _ | exact i64s_one _ | exact n64s_one _ | assumption) | exact bys_one _ | exact u32s_one _ | exact u64s_one _ | exact i64s_one _ | exact one_all rfl | (refine app_one ?_ ?_ <;> first | exact bys_one _ | exact one_all rfl | (simp; done))) (by first | with_reducible assumption | omega | exact lz) ?_
  simp only [List.set_cons_zero, List.set_cons_succ]
  refine vl_v (q_assign rfl) rfl ?_
  refine vl_nil ?_
  refine (th_n ?_)
  refine VC_seq ?_
  refine VC_region ?_
  first | (refine vl_v (q_loads 3 Try.underlying25 rfl rfl rfl sz25 (by first | with_reducible assumption | omega | exact lz)) rfl ?_) | (refine vl_v (q_loadsAt 3 Try.underlying25 rfl rfl rfl sz25 (by rfl) (by first | with_reducible assumption | omega | exact lz)) rfl ?_)
  first | (refine vl_v (q_loads 2 Try.underlying25 rfl rfl rfl sz25 (by first | with_reducible assumption | omega | exact lz)) rfl ?_) | (refine vl_v (q_loadsAt 2 Try.underlying25 rfl rfl rfl sz25 (by rfl) (by first | with_reducible assumption | omega | exact lz)) rfl ?_)
  first | (refine vl_v (q_loads 1 Try.underlying27 rfl rfl rfl sz27 (by first | with_reducible assumption | omega | exact lz)) rfl ?_) | (refine vl_v (q_loadsAt 1 Try.underlying27 rfl rfl rfl sz27 (by rfl) (by first | with_reducible assumption | omega | exact lz)) rfl ?_)
  refine vl_v (q_callV Try.func9 rfl rfl rfl (fun w1 H1 => hR w1)) rfl ?_
  refine vl_v (q_move rfl) rfl ?_
  refine vl_v (q_ext rfl rfl) rfl ?_
  refine vl_v (q_ext rfl rfl) rfl ?_
  refine l_allocA zr23 rfl ?_
  intro b10
  refine l_storeA 0 rfl rfl rfl sz23 (by first | with_reducible assumption | omega | exact lz) (by first | (with_reducible first | exact bys_one _ | exact u32s_one _ | exact u64s_one _ | exact i64s_one _ | exact n64s_one _ | assumption) | exact bys_one _ | exact u32s_one _ | exact u64s_one _ | exact i64s_one _ | exact one_all rfl | (refine app_one ?_ ?_ <;> first | exact bys_one _ | exact one_all rfl | (simp; done))) (by first | with_reducible assumption | omega | exact lz) ?_
  simp only [List.set_cons_zero, List.set_cons_succ]
  refine vl_v (q_assign rfl) rfl ?_
  refine vl_nil ?_
  refine (th_n ?_)
  refine VC_seq ?_
  refine VC_region ?_
  refine vl_v (q_move rfl) rfl ?_
  refine vl_v (q_move rfl) rfl ?_
  first | (refine vl_vg rfl (q_loads 1 Try.underlying23 rfl rfl rfl sz23 (by first | with_reducible assumption | omega | exact lz)) rfl ?_) | (refine vl_vg rfl (q_loadsAt 1 Try.underlying23 rfl rfl rfl sz23 (by rfl) (by first | with_reducible assumption | omega | exact lz)) rfl ?_)
  first | (refine vl_vg rfl (q_loads 0 Try.underlying23 rfl rfl rfl sz23 (by first | with_reducible assumption | omega | exact lz)) rfl ?_) | (refine vl_vg rfl (q_loadsAt 0 Try.underlying23 rfl rfl rfl sz23 (by rfl) (by first | with_reducible assumption | omega | exact lz)) rfl ?_)
  refine vl_vg rfl (q_eqT flat32 rfl rfl (fits_bys' lk) rfl) rfl ?_
  first | (refine vl_v (q_pickT rfl rfl) rfl ?_) | (refine vl_v (q_pickF rfl rfl) rfl ?_)
  refine vl_v (q_move rfl) rfl ?_
  refine vl_vg rfl (q_move rfl) rfl ?_
  refine vl_vg rfl (q_move rfl) rfl ?_
  refine vl_vg rfl (q_true (q_eql_n Try.underlying29 rfl rfl) (decide_eq_true rfl)) rfl ?_
  first | (refine vl_v (q_pickT rfl rfl) rfl ?_) | (refine vl_v (q_pickF rfl rfl) rfl ?_)
  refine vl_v (q_assign rfl) rfl ?_
  refine vl_nil ?_
  refine (th_n ?_)
  refine VC_ret ?_
  refine ⟨_, res1 rfl rfl, ?_⟩
  exact rfl
set_option maxHeartbeats 2000000 in
theorem begins_false (id fr i s c : List UInt8) (hid : id.length = 64) (hfr : fr.length = 64) (hi : i.length = 32) (hs : s.length = 32) (hc : c.length = 32) (w : World) :
    Calls Try.prog 3 #[.agg (bys id).toArray, .agg (bys fr).toArray, .agg (c3 i s c false).toArray] w fun e w' => e = .returned (.bool true) ∧ Kept [] w w' := by
  have hB := fun w => abegin_false_calls id fr i s c hid hfr hi hs hc w
  have hR := fun w => rbegin_false_calls id fr i s c hid hfr hi hs hc w
  have lk := agK_length [(id, s), (fr, i), (fr, s)]
  obtain ⟨k, ek⟩ : ∃ k, agK [(id, s), (fr, i), (fr, s)] = k := ⟨_, rfl⟩
  obtain ⟨b, eb⟩ : ∃ b, badL [(id, s), (fr, i), (fr, s)] = b := ⟨_, rfl⟩
  rw [ek, eb] at hB hR
  rw [ek] at lk
  clear ek eb
  have f0 := (c3_f (h := false) hi hs hc).len
  obtain ⟨bu, hbu⟩ : ∃ l, c3 i s c false = l := ⟨_, rfl⟩
  rw [hbu] at hB hR f0 ⊢
  have bk : (bys k).length = 32 := by rw [bys_length]; exact lk
  have l1 : (bys id).length = 64 := by rw [bys_length]; exact hid
  have l2 : (bys fr).length = 64 := by rw [bys_length]; exact hfr
  have lz : (bys (List.replicate 32 0)).length = 32 := by rw [bys_length, List.length_replicate]
  refine enter (n := 38) (R := fun e L => e = .returned (.bool true)) [.agg (bys id).toArray, .agg (bys fr).toArray, .agg bu.toArray] Try.func3 rfl rfl rfl (St.refl w) ?_ (fun e w' L' h H => ⟨h, H.kept⟩)
  refine VC_seq ?_
  refine VC_region ?_
  refine l_boxA rfl rfl ?_
  intro b3
  refine l_boxA rfl rfl ?_
  intro b4
  refine l_boxA rfl rfl ?_
  intro b5
  refine vl_v (q_assign rfl) rfl ?_
  refine vl_nil ?_
  refine (th_n ?_)
  refine VC_seq ?_
  refine VC_region ?_
  refine vl_v (q_callV Try.func7 rfl rfl rfl (fun w1 H1 => awake9_calls w1)) rfl ?_
  refine vl_v (q_assign rfl) rfl ?_
  refine vl_nil ?_
  refine (th_n ?_)
  refine VC_seq ?_
  refine VC_region ?_
  first | (refine vl_v (q_loads 2 Try.underlying25 rfl rfl rfl sz25 (by first | with_reducible assumption | omega | exact lz)) rfl ?_) | (refine vl_v (q_loadsAt 2 Try.underlying25 rfl rfl rfl sz25 (by rfl) (by first | with_reducible assumption | omega | exact lz)) rfl ?_)
  first | (refine vl_v (q_loads 1 Try.underlying25 rfl rfl rfl sz25 (by first | with_reducible assumption | omega | exact lz)) rfl ?_) | (refine vl_v (q_loadsAt 1 Try.underlying25 rfl rfl rfl sz25 (by rfl) (by first | with_reducible assumption | omega | exact lz)) rfl ?_)
  first | (refine vl_v (q_loads 0 Try.underlying27 rfl rfl rfl sz27 (by first | with_reducible assumption | omega | exact lz)) rfl ?_) | (refine vl_v (q_loadsAt 0 Try.underlying27 rfl rfl rfl sz27 (by rfl) (by first | with_reducible assumption | omega | exact lz)) rfl ?_)
  refine vl_v (q_callV Try.func8 rfl rfl rfl (fun w1 H1 => hB w1)) rfl ?_
  refine vl_v (q_move rfl) rfl ?_
  refine vl_v (q_ext rfl rfl) rfl ?_
  refine vl_v (q_ext rfl rfl) rfl ?_
  refine l_allocA zr23 rfl ?_
  intro b8
  refine l_storeA 0 rfl rfl rfl sz23 (by first | with_reducible assumption | omega | exact lz) (by first | (with_reducible first | exact bys_one _ | exact u32s_one _ | exact u64s_one _ | exact i64s_one _ | exact n64s_one _ | assumption) | exact bys_one _ | exact u32s_one _ | exact u64s_one _ | exact i64s_one _ | exact one_all rfl | (refine app_one ?_ ?_ <;> first | exact bys_one _ | exact one_all rfl | (simp; done))) (by first | with_reducible assumption | omega | exact lz) ?_
  simp only [List.set_cons_zero, List.set_cons_succ]
  refine vl_v (q_assign rfl) rfl ?_
  refine vl_nil ?_
  refine (th_n ?_)
  refine VC_seq ?_
  refine VC_region ?_
  first | (refine vl_v (q_loads 3 Try.underlying25 rfl rfl rfl sz25 (by first | with_reducible assumption | omega | exact lz)) rfl ?_) | (refine vl_v (q_loadsAt 3 Try.underlying25 rfl rfl rfl sz25 (by rfl) (by first | with_reducible assumption | omega | exact lz)) rfl ?_)
  first | (refine vl_v (q_loads 2 Try.underlying25 rfl rfl rfl sz25 (by first | with_reducible assumption | omega | exact lz)) rfl ?_) | (refine vl_v (q_loadsAt 2 Try.underlying25 rfl rfl rfl sz25 (by rfl) (by first | with_reducible assumption | omega | exact lz)) rfl ?_)
  first | (refine vl_v (q_loads 1 Try.underlying27 rfl rfl rfl sz27 (by first | with_reducible assumption | omega | exact lz)) rfl ?_) | (refine vl_v (q_loadsAt 1 Try.underlying27 rfl rfl rfl sz27 (by rfl) (by first | with_reducible assumption | omega | exact lz)) rfl ?_)
  refine vl_v (q_callV Try.func9 rfl rfl rfl (fun w1 H1 => hR w1)) rfl ?_
  refine vl_v (q_move rfl) rfl ?_
  refine vl_v (q_ext rfl rfl) rfl ?_
  refine vl_v (q_ext rfl rfl) rfl ?_
  refine l_allocA zr23 rfl ?_
  intro b10
  refine l_storeA 0 rfl rfl rfl sz23 (by first | with_reducible assumption | omega | exact lz) (by first | (with_reducible first | exact bys_one _ | exact u32s_one _ | exact u64s_one _ | exact i64s_one _ | exact n64s_one _ | assumption) | exact bys_one _ | exact u32s_one _ | exact u64s_one _ | exact i64s_one _ | exact one_all rfl | (refine app_one ?_ ?_ <;> first | exact bys_one _ | exact one_all rfl | (simp; done))) (by first | with_reducible assumption | omega | exact lz) ?_
  simp only [List.set_cons_zero, List.set_cons_succ]
  refine vl_v (q_assign rfl) rfl ?_
  refine vl_nil ?_
  refine (th_n ?_)
  refine VC_seq ?_
  refine VC_region ?_
  refine vl_v (q_move rfl) rfl ?_
  refine vl_v (q_move rfl) rfl ?_
  first | (refine vl_vg rfl (q_loads 1 Try.underlying23 rfl rfl rfl sz23 (by first | with_reducible assumption | omega | exact lz)) rfl ?_) | (refine vl_vg rfl (q_loadsAt 1 Try.underlying23 rfl rfl rfl sz23 (by rfl) (by first | with_reducible assumption | omega | exact lz)) rfl ?_)
  first | (refine vl_vg rfl (q_loads 0 Try.underlying23 rfl rfl rfl sz23 (by first | with_reducible assumption | omega | exact lz)) rfl ?_) | (refine vl_vg rfl (q_loadsAt 0 Try.underlying23 rfl rfl rfl sz23 (by rfl) (by first | with_reducible assumption | omega | exact lz)) rfl ?_)
  refine vl_vg rfl (q_eqT flat32 rfl rfl (fits_bys' lk) rfl) rfl ?_
  first | (refine vl_v (q_pickT rfl rfl) rfl ?_) | (refine vl_v (q_pickF rfl rfl) rfl ?_)
  refine vl_v (q_move rfl) rfl ?_
  refine vl_vg rfl (q_move rfl) rfl ?_
  refine vl_vg rfl (q_move rfl) rfl ?_
  refine vl_vg rfl (q_true (q_eql_n Try.underlying29 rfl rfl) (decide_eq_true rfl)) rfl ?_
  first | (refine vl_v (q_pickT rfl rfl) rfl ?_) | (refine vl_v (q_pickF rfl rfl) rfl ?_)
  refine vl_v (q_assign rfl) rfl ?_
  refine vl_nil ?_
  refine (th_n ?_)
  refine VC_ret ?_
  refine ⟨_, res1 rfl rfl, ?_⟩
  exact rfl
theorem agreeBegins.walk (w : World) (v0 : Value) (id : List UInt8) (h0 : PairV v0 id) (v1 : Value) (fr : List UInt8) (h1 : PairV v1 fr) (v2 : Value) (x : D3) (h2 : C3V 32 v2 x) :
    Calls Try.prog 3 #[v0, v1, v2] w fun e w' => e = .returned (.bool true) ∧ Kept [] w w' := by
  obtain ⟨rfl, hid⟩ := h0
  obtain ⟨rfl, hfr⟩ := h1
  obtain ⟨rfl, hi, hs, hc⟩ := h2
  obtain ⟨i, s, c, h⟩ := x
  cases h with
  | true => exact begins_true id fr i s c hid hfr hi hs hc w
  | false => exact begins_false id fr i s c hid hfr hi hs hc w

namespace agreeBegins
open Go.ChangeShapes Go.WideShapes Go.ChangeAt Go.RowKit
theorem own : ownKnob Try.prog.godebug = none := by kernel_rfl
theorem laidOut : laidOutB Try.prog = true := by kernel_rfl
set_option maxRecDepth 100000 in
theorem lifted (os : Os) (started : os.Started) (H : Type) (enc : TypeId × Value → H) :
    ReturnsInHanded {} Try.checked os 3 .any (Rows.agreeBeginsSpec.pre6 enc Try.prog Try.f3 Rows.agreeBeginsRow.domain false) (Rows.agreeBeginsSpec.post enc Try.prog Try.f3 false true false false) := by
  refine returnsInHanded_of_change (C := Try.checked) own started (by kernel_rfl) Try.func3
    (ChangeSpec.witness6 (enc := enc) (C := Try.checked) false ⟨#[], #[(.agg (List.replicate 64 (Value.int .u8 0)).toArray), (.agg (List.replicate 64 (Value.int .u8 0)).toArray), (.agg (c3 (List.replicate 32 0) (List.replicate 32 0) (List.replicate 32 0) false).toArray)], []⟩ 8 (by kernel_rfl) (by kernel_rfl) (by kernel_rfl) (by kernel_rfl)) ?_
  intro W base args ds gs before hval0 hW hcnd _
  have hval : ∀ (j : Nat) t v, Try.f3.params[j]? = some t → args[j]? = some v → Value.okWide Try.prog W .any base t v := hval0
  have hW' := hW
  obtain ⟨p, q, hA0, hV, rfl, hfz, hnd⟩ := hW
  have hA : DataW.TrodAll enc Try.prog W 0 (fun _ => true) true Try.f3.params.toList args.toList ds p := hA0
  rw [Try.params3] at hA hval
  obtain ⟨v0, vs0, d0, ds0, p0, q0, hargs, rfl, rfl, h0, r0⟩ := trodAll_cons hA
  obtain ⟨v1, vs1, d1, ds1, p1, q1, rfl, rfl, rfl, h1, r1⟩ := trodAll_cons r0
  obtain ⟨v2, vs2, d2, ds2, p2, q2, rfl, rfl, rfl, h2, r2⟩ := trodAll_cons r1
  obtain ⟨rfl, rfl, rfl⟩ := trodAll_nil r2
  obtain rfl : args = #[v0, v1, v2] := by cases args; simp_all
  obtain ⟨rfl, rfl⟩ := trodVars_none hV
  have k0 := h0
  have lt0 : ∀ x ∈ p0, x.block < W.heap.size := by obtain ⟨m, hm⟩ := k0; exact DataW.trod_lt m _ _ _ hm
  have k1 := h1
  have lt1 : ∀ x ∈ p1, x.block < W.heap.size := by obtain ⟨m, hm⟩ := k1; exact DataW.trod_lt m _ _ _ hm
  have k2 := h2
  have lt2 : ∀ x ∈ p2, x.block < W.heap.size := by obtain ⟨m, hm⟩ := k2; exact DataW.trod_lt m _ _ _ hm
  obtain ⟨cs0, e0, f0⟩ := open_flat (ks := (List.replicate 64 .u8)) 6 (by kernel_rfl) (by kernel_rfl) (hval 0 25 v0 rfl rfl) h0
  subst e0
  obtain ⟨l0, g0⟩ := open_pair f0
  obtain ⟨cs1, e1, f1⟩ := open_flat (ks := (List.replicate 64 .u8)) 6 (by kernel_rfl) (by kernel_rfl) (hval 1 25 v1 rfl rfl) h1
  subst e1
  obtain ⟨l1, g1⟩ := open_pair f1
  obtain ⟨l2, g2⟩ := open_bundle (hval 2 27 v2 rfl rfl) h2
  clear hA0 hval0
  refine (agreeBegins.walk W _ l0 g0 _ l1 g1 v2 l2 g2).mono fun e W' ⟨he, hK⟩ => ?_
  subst he
  have bel := hK.below
  exact ⟨_, rfl, _, _, _, [], _, [], hW', trodAll_mk1 (shut_bool Try.underlying4 _), (trodAll_cons_mk (Below.trod laidOut (by kernel_rfl) (of_decide_eq_true (by kernel_rfl)) k0 bel lt0) (trodAll_cons_mk (Below.trod laidOut (by kernel_rfl) (of_decide_eq_true (by kernel_rfl)) k1 bel lt1) (trodAll_cons_mk (Below.trod laidOut (by kernel_rfl) (of_decide_eq_true (by kernel_rfl)) k2 bel lt2) trodAll_mk0))), rfl, bel.frame _, fun h => by cases h⟩
theorem over : Rows.agreeBeginsRow.holds Try.pinned (OpenSpec.ofChange Rows.agreeBeginsSpec) :=
  OpenClaim.holds_of_wide 3 Try.f3 rfl rfl rfl rfl rfl rfl rfl ⟨rfl, rfl, rfl, rfl, rfl⟩ rfl rfl rfl rfl rfl (by kernel_rfl) Try.func3 (by kernel_rfl)
    (of_decide_eq_true (by kernel_rfl)) (by unfold Func.isWrapper; first | (rw [if_pos (by decide +kernel)]; kernel_rfl) | (rw [if_neg (by decide +kernel)]; exact ⟨rfl, rfl⟩))
    (fun os started H enc _ => lifted os started H enc)
theorem proved : Rows.AgreeBeginsSaid := over
end agreeBegins
/-- The row. -/
theorem agreeBegins_holds : Rows.AgreeBeginsSaid := agreeBegins.proved
#print axioms agreeBegins_holds
end Go.Proofs.Ytabmfndiepmcgaa
