/- Who begins with a bundle, and whose bundle it is, come to the same key: the statement AgreeBoth. No condition. -/
import Derived.Test.YtabmfndiepmcgaaRows
import Derived.Test.YtabmfndiepmcgaaQ09h
namespace Go.Proofs.Ytabmfndiepmcgaa
open Go.RowKit Go.PBYtabmfndiepmcgaa
set_option linter.unusedVariables false
set_option linter.unusedSimpArgs false
set_option maxRecDepth 10000

def SeedsV (v : Value) (l : List UInt8) : Prop := v = .agg (bys l).toArray ∧ l.length = 3
theorem open_seeds {cs : List Value} (h : Fits cs (List.replicate 3 .u8)) : ∃ l, SeedsV (.agg cs.toArray) l := by
  obtain ⟨l, hl, rfl⟩ := h.bytes
  exact ⟨l, rfl, hl⟩
set_option maxHeartbeats 4000000 in
theorem both_true (l : List UInt8) (hl : l.length = 3) (w : World) :
    Calls Try.prog 5 #[.agg (bys l).toArray, .bool true] w fun e w' => e = .returned (.bool true) ∧ Kept [] w w' := by
  have k4 := agK4 [l.getD 1 0, 4] [l.getD 2 0, 5] [l.getD 0 0, 1] [l.getD 0 0, 2] [l.getD 0 0, 3]
  have b4a := bad4A [l.getD 1 0, 4] [l.getD 2 0, 5] [l.getD 0 0, 1] [l.getD 0 0, 2] [l.getD 0 0, 3]
  have b4b := bad4B [l.getD 1 0, 4] [l.getD 2 0, 5] [l.getD 0 0, 1] [l.getD 0 0, 2] [l.getD 0 0, 3]
  have lA := pairB_length [l.getD 1 0, 4]
  have lF := pairB_length [l.getD 2 0, 5]
  have lI := pairB_length [l.getD 0 0, 1]
  have lS := pairB_length [l.getD 0 0, 2]
  have lO := pairB_length [l.getD 0 0, 3]
  have ho := fun w => own_calls (l.getD 0 0) true w
  have hpa := fun B m cb hm w hB hcb => rpair_calls [l.getD 1 0, 4] B m cb hm (by simp) w hB hcb
  have hpf := fun B m cb hm w hB hcb => rpair_calls [l.getD 2 0, 5] B m cb hm (by simp) w hB hcb
  unfold ownI ownS ownO at ho
  obtain ⟨A, eA⟩ : ∃ z, pairB [l.getD 1 0, 4] = z := ⟨_, rfl⟩
  obtain ⟨F, eF⟩ : ∃ z, pairB [l.getD 2 0, 5] = z := ⟨_, rfl⟩
  obtain ⟨I, eI⟩ : ∃ z, pairB [l.getD 0 0, 1] = z := ⟨_, rfl⟩
  obtain ⟨S, eS⟩ : ∃ z, pairB [l.getD 0 0, 2] = z := ⟨_, rfl⟩
  obtain ⟨O, eO⟩ : ∃ z, pairB [l.getD 0 0, 3] = z := ⟨_, rfl⟩
  rw [eA] at lA hpa k4 b4a b4b
  rw [eF] at lF hpf k4 b4a b4b
  rw [eI] at lI ho k4 b4a b4b
  rw [eS] at lS ho k4 b4a b4b
  rw [eO] at lO ho k4 b4a b4b
  have hB := fun w => abegin_true_calls A F (pubK I) (pubK S) (pubK O) lA lF (pubK_length lI) (pubK_length lS) (pubK_length lO) w
  have hN := fun w => aanswer_true_calls (pubK A) (pubK F) I S O (pubK_length lA) (pubK_length lF) lI lS lO w
  rw [b4b] at hB
  rw [b4a, k4] at hN
  have hU := fun w => bundle_true_calls I S O lI lS lO w
  rw [bnd_true] at hU
  have lk := agK_length [(A, pubK S), (F, pubK I), (F, pubK S), (F, pubK O)]
  obtain ⟨k, ek⟩ : ∃ k, agK [(A, pubK S), (F, pubK I), (F, pubK S), (F, pubK O)] = k := ⟨_, rfl⟩
  rw [ek] at hB hN lk
  clear k4 b4a b4b eA eF eI eS eO ek
  have lA' := pubK_length lA
  have lF' := pubK_length lF
  have lI' := pubK_length lI
  have lS' := pubK_length lS
  have lO' := pubK_length lO
  have bA : (bys A).length = 64 := by rw [bys_length]; exact lA
  have bF : (bys F).length = 64 := by rw [bys_length]; exact lF
  have bk : (bys k).length = 32 := by rw [bys_length]; exact lk
  have pA : ((bys A).drop 32).take 32 = bys (pubK A) := by unfold pubK; simp [bys]
  have pF : ((bys F).drop 32).take 32 = bys (pubK F) := by unfold pubK; simp [bys]
  have bpA : (bys (pubK A)).length = 32 := by rw [bys_length]; exact lA'
  have bpF : (bys (pubK F)).length = 32 := by rw [bys_length]; exact lF'
  have hz : k32.length = 32 := by simp
  have lz : (bys (List.replicate 32 0)).length = 32 := by rw [bys_length, List.length_replicate]
  have lz2 : (bys (List.replicate 32 0) ++ bys (List.replicate 32 0)).length = 64 := by rw [List.length_append, lz]
  have ezo : (bys (List.replicate 32 0) ++ bys (List.replicate 32 0) ++ bys (List.replicate 32 0) ++ bys (List.replicate 32 0) ++ bys (List.replicate 32 0) ++ bys (List.replicate 32 0) ++ [Value.bool false]).length = 193 := by kernel_rfl
  have ezb : (bys (List.replicate 32 0) ++ bys (List.replicate 32 0) ++ bys (List.replicate 32 0) ++ [Value.bool false]).length = 97 := by kernel_rfl
  have f0 := (c3_f (h := true) lI lS lO).len
  have g0 := c3_one I S O true
  obtain ⟨ow, how⟩ : ∃ l, c3 I S O true = l := ⟨_, rfl⟩
  obtain ⟨bu, hbu⟩ : ∃ l, c3 (pubK I) (pubK S) (pubK O) true = l := ⟨_, rfl⟩
  rw [how] at ho hN hU f0 g0
  rw [hbu] at hB hU
  have lbl : (bys l).length = 3 := by rw [bys_length]; exact hl
  refine enter (n := 54) (R := fun e L => e = .returned (.bool true)) [.agg (bys l).toArray, .bool true] Try.func5 rfl rfl rfl (St.refl w) ?_ (fun e w' L' h H => ⟨h, H.kept⟩)
  refine VC_seq ?_
  refine VC_region ?_
  refine l_boxA rfl rfl ?_
  intro b2
  refine vl_v (q_assign rfl) rfl ?_
  refine vl_nil ?_
  refine (th_n ?_)
  refine VC_seq ?_
  refine VC_region ?_
  refine vl_v (q_callV Try.func7 rfl rfl rfl (fun w1 H1 => awake9_calls w1)) rfl ?_
  refine vl_v (q_assign rfl) rfl ?_
  refine vl_nil ?_
  refine (th_n ?_)
  refine VC_seq ?_
  refine VC_region ?_
  first | (refine vl_v (q_idxA (m := 0) Try.underlying42 sz5 rfl rfl (by omega) (r := _) (by rw [Nat.mul_one, Nat.zero_add])) rfl ?_) | (refine vl_v (q_idxA (m := 0) Try.underlying42 sz5 rfl rfl (by omega) rfl) rfl ?_)
  first | (refine vl_v (q_load 0 Try.underlying5 rfl rfl rfl (bys_at (by first | with_reducible assumption | omega | exact lz | exact lz2 | rw [f0]))) rfl ?_) | (refine vl_v (q_load 0 Try.underlying5 rfl rfl rfl rfl) rfl ?_)
  refine vl_v (q_move rfl) rfl ?_
  refine vl_v (q_callV Try.func13 rfl rfl rfl (fun w1 H1 => ho w1)) rfl ?_
  refine l_allocA zr34 rfl ?_
  intro b6
  refine l_storeA 0 rfl rfl rfl sz34 f0 g0 ezo ?_
  simp only [List.set_cons_zero, List.set_cons_succ]
  refine vl_nil ?_
  refine (th_n ?_)
  refine VC_seq ?_
  refine VC_region ?_
  first | (refine vl_v (q_idxA (m := 1) Try.underlying42 sz5 rfl rfl (by omega) (r := _) (by rw [Nat.mul_one, Nat.zero_add])) rfl ?_) | (refine vl_v (q_idxA (m := 1) Try.underlying42 sz5 rfl rfl (by omega) rfl) rfl ?_)
  first | (refine vl_v (q_load 1 Try.underlying5 rfl rfl rfl (bys_at (by first | with_reducible assumption | omega | exact lz | exact lz2 | rw [f0]))) rfl ?_) | (refine vl_v (q_load 1 Try.underlying5 rfl rfl rfl rfl) rfl ?_)
  refine l_litA (cs := bys [_, UInt8.ofNat 4]) Try.underlying45 in5 (by decide) rfl rfl rfl rfl (by first | (with_reducible first | exact bys_one _ | exact u32s_one _ | exact u64s_one _ | exact i64s_one _ | exact n64s_one _ | assumption) | exact bys_one _ | exact u32s_one _ | exact u64s_one _ | exact i64s_one _ | exact one_all rfl | (refine app_one ?_ ?_ <;> first | exact bys_one _ | exact one_all rfl | (simp; done))) rfl rfl ?_
  intro b20
  refine vl_v (q_callV Try.func14 rfl rfl rfl (fun w1 H1 => hpa _ _ _ rfl w1 (Reads.row 0 rfl w1 H1) (by simp))) rfl ?_
  refine l_allocA zr25 rfl ?_
  intro b7
  refine l_storeA 0 rfl rfl rfl sz25 (by first | with_reducible assumption | omega | exact lz | exact lz2 | rw [f0]) (by first | (with_reducible first | exact bys_one _ | exact u32s_one _ | exact u64s_one _ | exact i64s_one _ | exact n64s_one _ | assumption) | exact bys_one _ | exact u32s_one _ | exact u64s_one _ | exact i64s_one _ | exact one_all rfl | (refine app_one ?_ ?_ <;> first | exact bys_one _ | exact one_all rfl | (simp; done))) (by first | with_reducible assumption | omega | exact lz | exact lz2 | rw [f0]) ?_
  simp only [List.set_cons_zero, List.set_cons_succ]
  refine vl_nil ?_
  refine (th_n ?_)
  refine VC_seq ?_
  refine VC_region ?_
  first | (refine vl_v (q_idxA (m := 2) Try.underlying42 sz5 rfl rfl (by omega) (r := _) (by rw [Nat.mul_one, Nat.zero_add])) rfl ?_) | (refine vl_v (q_idxA (m := 2) Try.underlying42 sz5 rfl rfl (by omega) rfl) rfl ?_)
  first | (refine vl_v (q_load 3 Try.underlying5 rfl rfl rfl (bys_at (by first | with_reducible assumption | omega | exact lz | exact lz2 | rw [f0]))) rfl ?_) | (refine vl_v (q_load 3 Try.underlying5 rfl rfl rfl rfl) rfl ?_)
  refine l_litA (cs := bys [_, UInt8.ofNat 5]) Try.underlying45 in5 (by decide) rfl rfl rfl rfl (by first | (with_reducible first | exact bys_one _ | exact u32s_one _ | exact u64s_one _ | exact i64s_one _ | exact n64s_one _ | assumption) | exact bys_one _ | exact u32s_one _ | exact u64s_one _ | exact i64s_one _ | exact one_all rfl | (refine app_one ?_ ?_ <;> first | exact bys_one _ | exact one_all rfl | (simp; done))) rfl rfl ?_
  intro b24
  refine vl_v (q_callV Try.func14 rfl rfl rfl (fun w1 H1 => hpf _ _ _ rfl w1 (Reads.row 0 rfl w1 H1) (by simp))) rfl ?_
  refine l_allocA zr25 rfl ?_
  intro b8
  refine l_storeA 0 rfl rfl rfl sz25 (by first | with_reducible assumption | omega | exact lz | exact lz2 | rw [f0]) (by first | (with_reducible first | exact bys_one _ | exact u32s_one _ | exact u64s_one _ | exact i64s_one _ | exact n64s_one _ | assumption) | exact bys_one _ | exact u32s_one _ | exact u64s_one _ | exact i64s_one _ | exact one_all rfl | (refine app_one ?_ ?_ <;> first | exact bys_one _ | exact one_all rfl | (simp; done))) (by first | with_reducible assumption | omega | exact lz | exact lz2 | rw [f0]) ?_
  simp only [List.set_cons_zero, List.set_cons_succ]
  refine vl_nil ?_
  refine (th_n ?_)
  refine VC_seq ?_
  refine VC_drawQ 10 6 [[], [], [], [2], [0, 1, 3], [4], [5], [5], [], [8, 6, 4, 0, 1, 2, 3, 5], [7, 9, 0, 1, 2, 3, 4, 5, 6, 8]] [[], [], [], [2], [0, 1, 2, 3], [0, 1, 2, 3, 4], [0, 1, 2, 3, 4, 5], [0, 1, 2, 3, 4, 5], [], [0, 1, 2, 3, 4, 5, 6, 8], [0, 1, 2, 3, 4, 5, 6, 7, 8, 9]] [([], [], [], [0, 1, 2, 3, 4, 5], []), ([], [], [], [0, 1, 2, 3, 4, 5], []), ([], [], [], [0, 1, 2, 3, 4, 5], []), ([2], [], [], [0, 1, 2, 3, 4, 5], [2]), ([0, 1, 2, 3], [], [], [0, 1, 2, 3, 4, 5], [0, 1, 2, 3]), ([0, 1, 2, 3, 4], [], [], [0, 1, 2, 3, 4, 5], [0, 1, 2, 3, 4]), ([0, 1, 2, 3, 4, 5], [], [], [0, 1, 2, 3, 4, 5], [0, 1, 2, 3, 4, 5]), ([0, 1, 2, 3, 4, 5], [], [], [0, 1, 2, 3, 4, 5], [0, 1, 2, 3, 4, 5]), ([], [], [], [0, 1, 2, 3, 4, 5], []), ([0, 1, 2, 3, 4, 5, 6, 8], [], [8], [0, 1, 2, 3, 4, 5], [0, 1, 2, 3, 4, 5, 6])] [0, 1, 2, 3, 4, 5] [0, 1, 2, 3, 4, 5, 6, 7, 9] rfl rfl (by kernel_rfl) ?_
  first | (refine qp_v (fun xs gs hx => q_loads 2 Try.underlying25 rfl rfl rfl sz25 (by first | with_reducible assumption | omega | exact lz | exact lz2 | rw [f0])) ?_) | (refine qp_v (fun xs gs hx => q_loadsAt 2 Try.underlying25 rfl rfl rfl sz25 (by rfl) (by first | with_reducible assumption | omega | exact lz | exact lz2 | rw [f0])) ?_)
  first | (refine qp_v (fun xs gs hx => q_loads 0 Try.underlying25 rfl rfl rfl sz25 (by first | with_reducible assumption | omega | exact lz | exact lz2 | rw [f0])) ?_) | (refine qp_v (fun xs gs hx => q_loadsAt 0 Try.underlying25 rfl rfl rfl sz25 (by rfl) (by first | with_reducible assumption | omega | exact lz | exact lz2 | rw [f0])) ?_)
  first | (refine qp_v (fun xs gs hx => q_loads 4 Try.underlying34 rfl rfl rfl sz34 (by first | with_reducible assumption | omega | exact lz | exact lz2 | rw [f0])) ?_) | (refine qp_v (fun xs gs hx => q_loadsAt 4 Try.underlying34 rfl rfl rfl sz34 (by rfl) (by first | with_reducible assumption | omega | exact lz | exact lz2 | rw [f0])) ?_)
  refine qp_v (fun xs gs hx => q_callV Try.func12 rfl rfl rfl (fun w1 H1 => hU w1)) ?_
  refine qp_v (fun xs gs hx => q_callV Try.func8 rfl rfl rfl (fun w1 H1 => hB w1)) ?_
  refine qp_v (fun xs gs hx => q_move rfl) ?_
  refine qp_v (fun xs gs hx => q_ext rfl rfl) ?_
  refine qp_v (fun xs gs hx => q_ext rfl rfl) ?_
  refine qp_a (fun xs gs hx => q_alloc zr23 rfl) ?_
  refine qp_storeN (fun xs gs hx => rfl) (fun xs gs hx => hx.1 rfl) (fun xs gs hx => rfl) (fun xs gs hx => List.append_nil _) sz23 (fun xs gs hx => by first | with_reducible assumption | omega | exact lz | exact lz2 | rw [f0]) (fun xs gs hx => by first | (with_reducible first | exact bys_one _ | exact u32s_one _ | exact u64s_one _ | exact i64s_one _ | exact n64s_one _ | assumption) | exact bys_one _ | exact u32s_one _ | exact u64s_one _ | exact i64s_one _ | exact one_all rfl | (refine app_one ?_ ?_ <;> first | exact bys_one _ | exact one_all rfl | (simp; done))) (fun xs gs hx => by first | with_reducible assumption | omega | exact lz | exact lz2 | rw [f0]) ?_
  refine qp_end ?_
  intro xs gs hx
  obtain ⟨⟨b9, e9⟩, _, _⟩ := hx
  simp only [selI, ownsA, List.contains_cons, List.contains_nil, Nat.reduceBEq, Nat.reduceAdd, Bool.or_false, Bool.or_true, Bool.false_or, Bool.true_or, mask, nRow, nBlk, nRowT, tupAt_0, tupAt_1, List.append_assoc, List.nil_append, List.append_nil, List.cons_append, List.singleton_append, e9]
  refine VL.keep (Sub.cons (s := 0) rfl (Sub.cons (s := 1) rfl (Sub.cons (s := 2) rfl (Sub.cons (s := 4) rfl (Sub.cons (s := 5) rfl (Sub.cons (s := 6) rfl (Sub.cons (s := 7) rfl (Sub.cons (s := 8) rfl (Sub.cons (s := 33) rfl (Sub.cons (s := 9) rfl (Sub.nil _))))))))))) ?_
  refine vl_v (q_assign rfl) rfl ?_
  refine vl_nil ?_
  refine (qn_n (th_n ?_))
  refine VC_seq ?_
  refine VC_region ?_
  first | (refine vl_v (q_loads 4 Try.underlying34 rfl rfl rfl sz34 (by first | with_reducible assumption | omega | exact lz | exact lz2 | rw [f0])) rfl ?_) | (refine vl_v (q_loadsAt 4 Try.underlying34 rfl rfl rfl sz34 (by rfl) (by first | with_reducible assumption | omega | exact lz | exact lz2 | rw [f0])) rfl ?_)
  refine vl_v (q_fldA fo25_1 (by decide) rfl rfl) rfl ?_
  refine vl_v (q_loadsAt 2 Try.underlying23 rfl rfl rfl sz23 pA bpA) rfl ?_
  refine vl_v (q_fldA fo25_1 (by decide) rfl rfl) rfl ?_
  refine vl_v (q_loadsAt 0 Try.underlying23 rfl rfl rfl sz23 pF bpF) rfl ?_
  refine vl_v (q_callV Try.func10 rfl rfl rfl (fun w1 H1 => hN w1)) rfl ?_
  refine vl_v (q_move rfl) rfl ?_
  refine vl_v (q_ext rfl rfl) rfl ?_
  refine vl_v (q_ext rfl rfl) rfl ?_
  refine l_allocA zr23 rfl ?_
  intro b11
  refine l_storeA 0 rfl rfl rfl sz23 (by first | with_reducible assumption | omega | exact lz | exact lz2 | rw [f0]) (by first | (with_reducible first | exact bys_one _ | exact u32s_one _ | exact u64s_one _ | exact i64s_one _ | exact n64s_one _ | assumption) | exact bys_one _ | exact u32s_one _ | exact u64s_one _ | exact i64s_one _ | exact one_all rfl | (refine app_one ?_ ?_ <;> first | exact bys_one _ | exact one_all rfl | (simp; done))) (by first | with_reducible assumption | omega | exact lz | exact lz2 | rw [f0]) ?_
  simp only [List.set_cons_zero, List.set_cons_succ]
  refine vl_v (q_assign rfl) rfl ?_
  refine vl_nil ?_
  refine (th_n ?_)
  refine VC_seq ?_
  refine VC_region ?_
  refine vl_v (q_move rfl) rfl ?_
  refine vl_v (q_move rfl) rfl ?_
  refine vl_vg rfl (q_move rfl) rfl ?_
  refine vl_vg rfl (q_move rfl) rfl ?_
  refine vl_vg rfl (q_true (q_eql_n Try.underlying29 rfl rfl) (decide_eq_true rfl)) rfl ?_
  first | (refine vl_v (q_pickT rfl rfl) rfl ?_) | (refine vl_v (q_pickF rfl rfl) rfl ?_)
  refine vl_v (q_move rfl) rfl ?_
  first | (refine vl_vg rfl (q_loads 7 Try.underlying23 rfl rfl rfl sz23 (by first | with_reducible assumption | omega | exact lz | exact lz2 | rw [f0])) rfl ?_) | (refine vl_vg rfl (q_loadsAt 7 Try.underlying23 rfl rfl rfl sz23 (by rfl) (by first | with_reducible assumption | omega | exact lz | exact lz2 | rw [f0])) rfl ?_)
  first | (refine vl_vg rfl (q_loads 0 Try.underlying23 rfl rfl rfl sz23 (by first | with_reducible assumption | omega | exact lz | exact lz2 | rw [f0])) rfl ?_) | (refine vl_vg rfl (q_loadsAt 0 Try.underlying23 rfl rfl rfl sz23 (by rfl) (by first | with_reducible assumption | omega | exact lz | exact lz2 | rw [f0])) rfl ?_)
  refine vl_vg rfl (q_eqT flat32 rfl rfl (fits_bys' lk) rfl) rfl ?_
  first | (refine vl_v (q_pickT rfl rfl) rfl ?_) | (refine vl_v (q_pickF rfl rfl) rfl ?_)
  refine vl_v (q_assign rfl) rfl ?_
  refine vl_nil ?_
  refine (th_n ?_)
  refine VC_ret ?_
  refine ⟨_, res1 rfl rfl, ?_⟩
  exact rfl
set_option maxHeartbeats 4000000 in
theorem both_false (l : List UInt8) (hl : l.length = 3) (w : World) :
    Calls Try.prog 5 #[.agg (bys l).toArray, .bool false] w fun e w' => e = .returned (.bool true) ∧ Kept [] w w' := by
  have k3 := agK3 [l.getD 1 0, 4] [l.getD 2 0, 5] [l.getD 0 0, 1] [l.getD 0 0, 2] [l.getD 0 0, 3]
  have b3a := bad3A [l.getD 1 0, 4] [l.getD 2 0, 5] [l.getD 0 0, 1] [l.getD 0 0, 2] [l.getD 0 0, 3]
  have b3b := bad3B [l.getD 1 0, 4] [l.getD 2 0, 5] [l.getD 0 0, 1] [l.getD 0 0, 2] [l.getD 0 0, 3]
  have lA := pairB_length [l.getD 1 0, 4]
  have lF := pairB_length [l.getD 2 0, 5]
  have lI := pairB_length [l.getD 0 0, 1]
  have lS := pairB_length [l.getD 0 0, 2]
  have lO := pairB_length [l.getD 0 0, 3]
  have ho := fun w => own_calls (l.getD 0 0) false w
  have hpa := fun B m cb hm w hB hcb => rpair_calls [l.getD 1 0, 4] B m cb hm (by simp) w hB hcb
  have hpf := fun B m cb hm w hB hcb => rpair_calls [l.getD 2 0, 5] B m cb hm (by simp) w hB hcb
  unfold ownI ownS ownO at ho
  obtain ⟨A, eA⟩ : ∃ z, pairB [l.getD 1 0, 4] = z := ⟨_, rfl⟩
  obtain ⟨F, eF⟩ : ∃ z, pairB [l.getD 2 0, 5] = z := ⟨_, rfl⟩
  obtain ⟨I, eI⟩ : ∃ z, pairB [l.getD 0 0, 1] = z := ⟨_, rfl⟩
  obtain ⟨S, eS⟩ : ∃ z, pairB [l.getD 0 0, 2] = z := ⟨_, rfl⟩
  obtain ⟨O, eO⟩ : ∃ z, pairB [l.getD 0 0, 3] = z := ⟨_, rfl⟩
  rw [eA] at lA hpa k3 b3a b3b
  rw [eF] at lF hpf k3 b3a b3b
  rw [eI] at lI ho k3 b3a b3b
  rw [eS] at lS ho k3 b3a b3b
  rw [eO] at lO ho
  have hB := fun w => abegin_false_calls A F (pubK I) (pubK S) k32 lA lF (pubK_length lI) (pubK_length lS) (by simp) w
  have hN := fun w => aanswer_false_calls (pubK A) (pubK F) I S O (pubK_length lA) (pubK_length lF) lI lS lO w
  rw [b3b] at hB
  rw [b3a, k3] at hN
  have hU := fun w => bundle_false_calls I S O lI lS lO w
  rw [bnd_false] at hU
  have lk := agK_length [(A, pubK S), (F, pubK I), (F, pubK S)]
  obtain ⟨k, ek⟩ : ∃ k, agK [(A, pubK S), (F, pubK I), (F, pubK S)] = k := ⟨_, rfl⟩
  rw [ek] at hB hN lk
  clear k3 b3a b3b eA eF eI eS eO ek
  have lA' := pubK_length lA
  have lF' := pubK_length lF
  have lI' := pubK_length lI
  have lS' := pubK_length lS
  have lO' := pubK_length lO
  have bA : (bys A).length = 64 := by rw [bys_length]; exact lA
  have bF : (bys F).length = 64 := by rw [bys_length]; exact lF
  have bk : (bys k).length = 32 := by rw [bys_length]; exact lk
  have pA : ((bys A).drop 32).take 32 = bys (pubK A) := by unfold pubK; simp [bys]
  have pF : ((bys F).drop 32).take 32 = bys (pubK F) := by unfold pubK; simp [bys]
  have bpA : (bys (pubK A)).length = 32 := by rw [bys_length]; exact lA'
  have bpF : (bys (pubK F)).length = 32 := by rw [bys_length]; exact lF'
  have hz : k32.length = 32 := by simp
  have lz : (bys (List.replicate 32 0)).length = 32 := by rw [bys_length, List.length_replicate]
  have lz2 : (bys (List.replicate 32 0) ++ bys (List.replicate 32 0)).length = 64 := by rw [List.length_append, lz]
  have ezo : (bys (List.replicate 32 0) ++ bys (List.replicate 32 0) ++ bys (List.replicate 32 0) ++ bys (List.replicate 32 0) ++ bys (List.replicate 32 0) ++ bys (List.replicate 32 0) ++ [Value.bool false]).length = 193 := by kernel_rfl
  have ezb : (bys (List.replicate 32 0) ++ bys (List.replicate 32 0) ++ bys (List.replicate 32 0) ++ [Value.bool false]).length = 97 := by kernel_rfl
  have f0 := (c3_f (h := false) lI lS lO).len
  have g0 := c3_one I S O false
  obtain ⟨ow, how⟩ : ∃ l, c3 I S O false = l := ⟨_, rfl⟩
  obtain ⟨bu, hbu⟩ : ∃ l, c3 (pubK I) (pubK S) k32 false = l := ⟨_, rfl⟩
  rw [how] at ho hN hU f0 g0
  rw [hbu] at hB hU
  have lbl : (bys l).length = 3 := by rw [bys_length]; exact hl
  refine enter (n := 54) (R := fun e L => e = .returned (.bool true)) [.agg (bys l).toArray, .bool false] Try.func5 rfl rfl rfl (St.refl w) ?_ (fun e w' L' h H => ⟨h, H.kept⟩)
  refine VC_seq ?_
  refine VC_region ?_
  refine l_boxA rfl rfl ?_
  intro b2
  refine vl_v (q_assign rfl) rfl ?_
  refine vl_nil ?_
  refine (th_n ?_)
  refine VC_seq ?_
  refine VC_region ?_
  refine vl_v (q_callV Try.func7 rfl rfl rfl (fun w1 H1 => awake9_calls w1)) rfl ?_
  refine vl_v (q_assign rfl) rfl ?_
  refine vl_nil ?_
  refine (th_n ?_)
  refine VC_seq ?_
  refine VC_region ?_
  first | (refine vl_v (q_idxA (m := 0) Try.underlying42 sz5 rfl rfl (by omega) (r := _) (by rw [Nat.mul_one, Nat.zero_add])) rfl ?_) | (refine vl_v (q_idxA (m := 0) Try.underlying42 sz5 rfl rfl (by omega) rfl) rfl ?_)
  first | (refine vl_v (q_load 0 Try.underlying5 rfl rfl rfl (bys_at (by first | with_reducible assumption | omega | exact lz | exact lz2 | rw [f0]))) rfl ?_) | (refine vl_v (q_load 0 Try.underlying5 rfl rfl rfl rfl) rfl ?_)
  refine vl_v (q_move rfl) rfl ?_
  refine vl_v (q_callV Try.func13 rfl rfl rfl (fun w1 H1 => ho w1)) rfl ?_
  refine l_allocA zr34 rfl ?_
  intro b6
  refine l_storeA 0 rfl rfl rfl sz34 f0 g0 ezo ?_
  simp only [List.set_cons_zero, List.set_cons_succ]
  refine vl_nil ?_
  refine (th_n ?_)
  refine VC_seq ?_
  refine VC_region ?_
  first | (refine vl_v (q_idxA (m := 1) Try.underlying42 sz5 rfl rfl (by omega) (r := _) (by rw [Nat.mul_one, Nat.zero_add])) rfl ?_) | (refine vl_v (q_idxA (m := 1) Try.underlying42 sz5 rfl rfl (by omega) rfl) rfl ?_)
  first | (refine vl_v (q_load 1 Try.underlying5 rfl rfl rfl (bys_at (by first | with_reducible assumption | omega | exact lz | exact lz2 | rw [f0]))) rfl ?_) | (refine vl_v (q_load 1 Try.underlying5 rfl rfl rfl rfl) rfl ?_)
  refine l_litA (cs := bys [_, UInt8.ofNat 4]) Try.underlying45 in5 (by decide) rfl rfl rfl rfl (by first | (with_reducible first | exact bys_one _ | exact u32s_one _ | exact u64s_one _ | exact i64s_one _ | exact n64s_one _ | assumption) | exact bys_one _ | exact u32s_one _ | exact u64s_one _ | exact i64s_one _ | exact one_all rfl | (refine app_one ?_ ?_ <;> first | exact bys_one _ | exact one_all rfl | (simp; done))) rfl rfl ?_
  intro b20
  refine vl_v (q_callV Try.func14 rfl rfl rfl (fun w1 H1 => hpa _ _ _ rfl w1 (Reads.row 0 rfl w1 H1) (by simp))) rfl ?_
  refine l_allocA zr25 rfl ?_
  intro b7
  refine l_storeA 0 rfl rfl rfl sz25 (by first | with_reducible assumption | omega | exact lz | exact lz2 | rw [f0]) (by first | (with_reducible first | exact bys_one _ | exact u32s_one _ | exact u64s_one _ | exact i64s_one _ | exact n64s_one _ | assumption) | exact bys_one _ | exact u32s_one _ | exact u64s_one _ | exact i64s_one _ | exact one_all rfl | (refine app_one ?_ ?_ <;> first | exact bys_one _ | exact one_all rfl | (simp; done))) (by first | with_reducible assumption | omega | exact lz | exact lz2 | rw [f0]) ?_
  simp only [List.set_cons_zero, List.set_cons_succ]
  refine vl_nil ?_
  refine (th_n ?_)
  refine VC_seq ?_
  refine VC_region ?_
  first | (refine vl_v (q_idxA (m := 2) Try.underlying42 sz5 rfl rfl (by omega) (r := _) (by rw [Nat.mul_one, Nat.zero_add])) rfl ?_) | (refine vl_v (q_idxA (m := 2) Try.underlying42 sz5 rfl rfl (by omega) rfl) rfl ?_)
  first | (refine vl_v (q_load 3 Try.underlying5 rfl rfl rfl (bys_at (by first | with_reducible assumption | omega | exact lz | exact lz2 | rw [f0]))) rfl ?_) | (refine vl_v (q_load 3 Try.underlying5 rfl rfl rfl rfl) rfl ?_)
  refine l_litA (cs := bys [_, UInt8.ofNat 5]) Try.underlying45 in5 (by decide) rfl rfl rfl rfl (by first | (with_reducible first | exact bys_one _ | exact u32s_one _ | exact u64s_one _ | exact i64s_one _ | exact n64s_one _ | assumption) | exact bys_one _ | exact u32s_one _ | exact u64s_one _ | exact i64s_one _ | exact one_all rfl | (refine app_one ?_ ?_ <;> first | exact bys_one _ | exact one_all rfl | (simp; done))) rfl rfl ?_
  intro b24
  refine vl_v (q_callV Try.func14 rfl rfl rfl (fun w1 H1 => hpf _ _ _ rfl w1 (Reads.row 0 rfl w1 H1) (by simp))) rfl ?_
  refine l_allocA zr25 rfl ?_
  intro b8
  refine l_storeA 0 rfl rfl rfl sz25 (by first | with_reducible assumption | omega | exact lz | exact lz2 | rw [f0]) (by first | (with_reducible first | exact bys_one _ | exact u32s_one _ | exact u64s_one _ | exact i64s_one _ | exact n64s_one _ | assumption) | exact bys_one _ | exact u32s_one _ | exact u64s_one _ | exact i64s_one _ | exact one_all rfl | (refine app_one ?_ ?_ <;> first | exact bys_one _ | exact one_all rfl | (simp; done))) (by first | with_reducible assumption | omega | exact lz | exact lz2 | rw [f0]) ?_
  simp only [List.set_cons_zero, List.set_cons_succ]
  refine vl_nil ?_
  refine (th_n ?_)
  refine VC_seq ?_
  refine VC_drawQ 10 6 [[], [], [], [2], [0, 1, 3], [4], [5], [5], [], [8, 6, 4, 0, 1, 2, 3, 5], [7, 9, 0, 1, 2, 3, 4, 5, 6, 8]] [[], [], [], [2], [0, 1, 2, 3], [0, 1, 2, 3, 4], [0, 1, 2, 3, 4, 5], [0, 1, 2, 3, 4, 5], [], [0, 1, 2, 3, 4, 5, 6, 8], [0, 1, 2, 3, 4, 5, 6, 7, 8, 9]] [([], [], [], [0, 1, 2, 3, 4, 5], []), ([], [], [], [0, 1, 2, 3, 4, 5], []), ([], [], [], [0, 1, 2, 3, 4, 5], []), ([2], [], [], [0, 1, 2, 3, 4, 5], [2]), ([0, 1, 2, 3], [], [], [0, 1, 2, 3, 4, 5], [0, 1, 2, 3]), ([0, 1, 2, 3, 4], [], [], [0, 1, 2, 3, 4, 5], [0, 1, 2, 3, 4]), ([0, 1, 2, 3, 4, 5], [], [], [0, 1, 2, 3, 4, 5], [0, 1, 2, 3, 4, 5]), ([0, 1, 2, 3, 4, 5], [], [], [0, 1, 2, 3, 4, 5], [0, 1, 2, 3, 4, 5]), ([], [], [], [0, 1, 2, 3, 4, 5], []), ([0, 1, 2, 3, 4, 5, 6, 8], [], [8], [0, 1, 2, 3, 4, 5], [0, 1, 2, 3, 4, 5, 6])] [0, 1, 2, 3, 4, 5] [0, 1, 2, 3, 4, 5, 6, 7, 9] rfl rfl (by kernel_rfl) ?_
  first | (refine qp_v (fun xs gs hx => q_loads 2 Try.underlying25 rfl rfl rfl sz25 (by first | with_reducible assumption | omega | exact lz | exact lz2 | rw [f0])) ?_) | (refine qp_v (fun xs gs hx => q_loadsAt 2 Try.underlying25 rfl rfl rfl sz25 (by rfl) (by first | with_reducible assumption | omega | exact lz | exact lz2 | rw [f0])) ?_)
  first | (refine qp_v (fun xs gs hx => q_loads 0 Try.underlying25 rfl rfl rfl sz25 (by first | with_reducible assumption | omega | exact lz | exact lz2 | rw [f0])) ?_) | (refine qp_v (fun xs gs hx => q_loadsAt 0 Try.underlying25 rfl rfl rfl sz25 (by rfl) (by first | with_reducible assumption | omega | exact lz | exact lz2 | rw [f0])) ?_)
  first | (refine qp_v (fun xs gs hx => q_loads 4 Try.underlying34 rfl rfl rfl sz34 (by first | with_reducible assumption | omega | exact lz | exact lz2 | rw [f0])) ?_) | (refine qp_v (fun xs gs hx => q_loadsAt 4 Try.underlying34 rfl rfl rfl sz34 (by rfl) (by first | with_reducible assumption | omega | exact lz | exact lz2 | rw [f0])) ?_)
  refine qp_v (fun xs gs hx => q_callV Try.func12 rfl rfl rfl (fun w1 H1 => hU w1)) ?_
  refine qp_v (fun xs gs hx => q_callV Try.func8 rfl rfl rfl (fun w1 H1 => hB w1)) ?_
  refine qp_v (fun xs gs hx => q_move rfl) ?_
  refine qp_v (fun xs gs hx => q_ext rfl rfl) ?_
  refine qp_v (fun xs gs hx => q_ext rfl rfl) ?_
  refine qp_a (fun xs gs hx => q_alloc zr23 rfl) ?_
  refine qp_storeN (fun xs gs hx => rfl) (fun xs gs hx => hx.1 rfl) (fun xs gs hx => rfl) (fun xs gs hx => List.append_nil _) sz23 (fun xs gs hx => by first | with_reducible assumption | omega | exact lz | exact lz2 | rw [f0]) (fun xs gs hx => by first | (with_reducible first | exact bys_one _ | exact u32s_one _ | exact u64s_one _ | exact i64s_one _ | exact n64s_one _ | assumption) | exact bys_one _ | exact u32s_one _ | exact u64s_one _ | exact i64s_one _ | exact one_all rfl | (refine app_one ?_ ?_ <;> first | exact bys_one _ | exact one_all rfl | (simp; done))) (fun xs gs hx => by first | with_reducible assumption | omega | exact lz | exact lz2 | rw [f0]) ?_
  refine qp_end ?_
  intro xs gs hx
  obtain ⟨⟨b9, e9⟩, _, _⟩ := hx
  simp only [selI, ownsA, List.contains_cons, List.contains_nil, Nat.reduceBEq, Nat.reduceAdd, Bool.or_false, Bool.or_true, Bool.false_or, Bool.true_or, mask, nRow, nBlk, nRowT, tupAt_0, tupAt_1, List.append_assoc, List.nil_append, List.append_nil, List.cons_append, List.singleton_append, e9]
  refine VL.keep (Sub.cons (s := 0) rfl (Sub.cons (s := 1) rfl (Sub.cons (s := 2) rfl (Sub.cons (s := 4) rfl (Sub.cons (s := 5) rfl (Sub.cons (s := 6) rfl (Sub.cons (s := 7) rfl (Sub.cons (s := 8) rfl (Sub.cons (s := 33) rfl (Sub.cons (s := 9) rfl (Sub.nil _))))))))))) ?_
  refine vl_v (q_assign rfl) rfl ?_
  refine vl_nil ?_
  refine (qn_n (th_n ?_))
  refine VC_seq ?_
  refine VC_region ?_
  first | (refine vl_v (q_loads 4 Try.underlying34 rfl rfl rfl sz34 (by first | with_reducible assumption | omega | exact lz | exact lz2 | rw [f0])) rfl ?_) | (refine vl_v (q_loadsAt 4 Try.underlying34 rfl rfl rfl sz34 (by rfl) (by first | with_reducible assumption | omega | exact lz | exact lz2 | rw [f0])) rfl ?_)
  refine vl_v (q_fldA fo25_1 (by decide) rfl rfl) rfl ?_
  refine vl_v (q_loadsAt 2 Try.underlying23 rfl rfl rfl sz23 pA bpA) rfl ?_
  refine vl_v (q_fldA fo25_1 (by decide) rfl rfl) rfl ?_
  refine vl_v (q_loadsAt 0 Try.underlying23 rfl rfl rfl sz23 pF bpF) rfl ?_
  refine vl_v (q_callV Try.func10 rfl rfl rfl (fun w1 H1 => hN w1)) rfl ?_
  refine vl_v (q_move rfl) rfl ?_
  refine vl_v (q_ext rfl rfl) rfl ?_
  refine vl_v (q_ext rfl rfl) rfl ?_
  refine l_allocA zr23 rfl ?_
  intro b11
  refine l_storeA 0 rfl rfl rfl sz23 (by first | with_reducible assumption | omega | exact lz | exact lz2 | rw [f0]) (by first | (with_reducible first | exact bys_one _ | exact u32s_one _ | exact u64s_one _ | exact i64s_one _ | exact n64s_one _ | assumption) | exact bys_one _ | exact u32s_one _ | exact u64s_one _ | exact i64s_one _ | exact one_all rfl | (refine app_one ?_ ?_ <;> first | exact bys_one _ | exact one_all rfl | (simp; done))) (by first | with_reducible assumption | omega | exact lz | exact lz2 | rw [f0]) ?_
  simp only [List.set_cons_zero, List.set_cons_succ]
  refine vl_v (q_assign rfl) rfl ?_
  refine vl_nil ?_
  refine (th_n ?_)
  refine VC_seq ?_
  refine VC_region ?_
  refine vl_v (q_move rfl) rfl ?_
  refine vl_v (q_move rfl) rfl ?_
  refine vl_vg rfl (q_move rfl) rfl ?_
  refine vl_vg rfl (q_move rfl) rfl ?_
  refine vl_vg rfl (q_true (q_eql_n Try.underlying29 rfl rfl) (decide_eq_true rfl)) rfl ?_
  first | (refine vl_v (q_pickT rfl rfl) rfl ?_) | (refine vl_v (q_pickF rfl rfl) rfl ?_)
  refine vl_v (q_move rfl) rfl ?_
  first | (refine vl_vg rfl (q_loads 7 Try.underlying23 rfl rfl rfl sz23 (by first | with_reducible assumption | omega | exact lz | exact lz2 | rw [f0])) rfl ?_) | (refine vl_vg rfl (q_loadsAt 7 Try.underlying23 rfl rfl rfl sz23 (by rfl) (by first | with_reducible assumption | omega | exact lz | exact lz2 | rw [f0])) rfl ?_)
  first | (refine vl_vg rfl (q_loads 0 Try.underlying23 rfl rfl rfl sz23 (by first | with_reducible assumption | omega | exact lz | exact lz2 | rw [f0])) rfl ?_) | (refine vl_vg rfl (q_loadsAt 0 Try.underlying23 rfl rfl rfl sz23 (by rfl) (by first | with_reducible assumption | omega | exact lz | exact lz2 | rw [f0])) rfl ?_)
  refine vl_vg rfl (q_eqT flat32 rfl rfl (fits_bys' lk) rfl) rfl ?_
  first | (refine vl_v (q_pickT rfl rfl) rfl ?_) | (refine vl_v (q_pickF rfl rfl) rfl ?_)
  refine vl_v (q_assign rfl) rfl ?_
  refine vl_nil ?_
  refine (th_n ?_)
  refine VC_ret ?_
  refine ⟨_, res1 rfl rfl, ?_⟩
  exact rfl
theorem agreeBoth.walk (w : World) (v0 : Value) (l : List UInt8) (h0 : SeedsV v0 l) (h : Bool) :
    Calls Try.prog 5 #[v0, .bool h] w fun e w' => e = .returned (.bool true) ∧ Kept [] w w' := by
  obtain ⟨rfl, hl⟩ := h0
  cases h with
  | true => exact both_true l hl w
  | false => exact both_false l hl w

namespace agreeBoth
open Go.ChangeShapes Go.WideShapes Go.ChangeAt Go.RowKit
theorem own : ownKnob Try.prog.godebug = none := by kernel_rfl
theorem laidOut : laidOutB Try.prog = true := by kernel_rfl
set_option maxRecDepth 100000 in
theorem lifted (os : Os) (started : os.Started) (H : Type) (enc : TypeId × Value → H) :
    ReturnsInHanded {} Try.checked os 5 .any (Rows.agreeBothSpec.pre6 enc Try.prog Try.f5 Rows.agreeBothRow.domain false) (Rows.agreeBothSpec.post enc Try.prog Try.f5 false true false false) := by
  refine returnsInHanded_of_change (C := Try.checked) own started (by kernel_rfl) Try.func5
    (ChangeSpec.witness6 (enc := enc) (C := Try.checked) false ⟨#[], #[(.agg (List.replicate 3 (Value.int .u8 0)).toArray), .bool false], []⟩ 8 (by kernel_rfl) (by kernel_rfl) (by kernel_rfl) (by kernel_rfl)) ?_
  intro W base args ds gs before hval0 hW hcnd _
  have hval : ∀ (j : Nat) t v, Try.f5.params[j]? = some t → args[j]? = some v → Value.okWide Try.prog W .any base t v := hval0
  have hW' := hW
  obtain ⟨p, q, hA0, hV, rfl, hfz, hnd⟩ := hW
  have hA : DataW.TrodAll enc Try.prog W 0 (fun _ => true) true Try.f5.params.toList args.toList ds p := hA0
  rw [Try.params5] at hA hval
  obtain ⟨v0, vs0, d0, ds0, p0, q0, hargs, rfl, rfl, h0, r0⟩ := trodAll_cons hA
  obtain ⟨v1, vs1, d1, ds1, p1, q1, rfl, rfl, rfl, h1, r1⟩ := trodAll_cons r0
  obtain ⟨rfl, rfl, rfl⟩ := trodAll_nil r1
  obtain rfl : args = #[v0, v1] := by cases args; simp_all
  obtain ⟨rfl, rfl⟩ := trodVars_none hV
  have k0 := h0
  have lt0 : ∀ x ∈ p0, x.block < W.heap.size := by obtain ⟨m, hm⟩ := k0; exact DataW.trod_lt m _ _ _ hm
  have k1 := h1
  have lt1 : ∀ x ∈ p1, x.block < W.heap.size := by obtain ⟨m, hm⟩ := k1; exact DataW.trod_lt m _ _ _ hm
  obtain ⟨cs0, e0, f0⟩ := open_flat (ks := (List.replicate 3 .u8)) 6 (by kernel_rfl) (by kernel_rfl) (hval 0 42 v0 rfl rfl) h0
  subst e0
  obtain ⟨l0, g0⟩ := open_seeds f0
  obtain ⟨l1, rfl, _, _⟩ := Go.RowKit.open_bool Try.underlying4 (hval 1 4 v1 rfl rfl) h1
  clear hA0 hval0
  refine (agreeBoth.walk W _ l0 g0 l1).mono fun e W' ⟨he, hK⟩ => ?_
  subst he
  have bel := hK.below
  exact ⟨_, rfl, _, _, _, [], _, [], hW', trodAll_mk1 (shut_bool Try.underlying4 _), (trodAll_cons_mk (Below.trod laidOut (by kernel_rfl) (of_decide_eq_true (by kernel_rfl)) k0 bel lt0) (trodAll_cons_mk (Below.trod laidOut (by kernel_rfl) (of_decide_eq_true (by kernel_rfl)) k1 bel lt1) trodAll_mk0)), rfl, bel.frame _, fun h => by cases h⟩
theorem over : Rows.agreeBothRow.holds Try.pinned (OpenSpec.ofChange Rows.agreeBothSpec) :=
  OpenClaim.holds_of_wide 5 Try.f5 rfl rfl rfl rfl rfl rfl rfl ⟨rfl, rfl, rfl, rfl, rfl⟩ rfl rfl rfl rfl rfl (by kernel_rfl) Try.func5 (by kernel_rfl)
    (of_decide_eq_true (by kernel_rfl)) (by unfold Func.isWrapper; first | (rw [if_pos (by decide +kernel)]; kernel_rfl) | (rw [if_neg (by decide +kernel)]; exact ⟨rfl, rfl⟩))
    (fun os started H enc _ => lifted os started H enc)
theorem proved : Rows.AgreeBothSaid := over
end agreeBoth
/-- The row. -/
theorem agreeBoth_holds : Rows.AgreeBothSaid := agreeBoth.proved
#print axioms agreeBoth_holds
end Go.Proofs.Ytabmfndiepmcgaa
