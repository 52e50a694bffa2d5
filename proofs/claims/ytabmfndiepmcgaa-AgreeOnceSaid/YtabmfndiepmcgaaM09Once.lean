/- Without a key for once the bundle tells none, whatever it is: the statement AgreeOnce. No condition. -/
import Derived.Test.YtabmfndiepmcgaaRows
import Derived.Test.YtabmfndiepmcgaaQ09h
namespace Go.Proofs.Ytabmfndiepmcgaa
open Go.RowKit Go.PBYtabmfndiepmcgaa
set_option linter.unusedVariables false
set_option linter.unusedSimpArgs false
set_option maxRecDepth 10000

def SeedsV (v : Value) (l : List UInt8) : Prop := v = .agg (bys l).toArray ∧ l.length = 3
theorem open_seeds {cs : List Value} (h : Fits cs (List.replicate 3 .u8)) : ∃ l, SeedsV (.agg cs.toArray) l := by
  obtain ⟨l, hl, rfl⟩ := h.bytes
  exact ⟨l, rfl, hl⟩
set_option maxHeartbeats 4000000 in
theorem agreeOnce.walk (w : World) (v0 : Value) (l : List UInt8) (h0 : SeedsV v0 l) :
    Calls Try.prog 6 #[v0] w fun e w' => e = .returned (.bool true) ∧ Kept [] w w' := by
  obtain ⟨rfl, hl⟩ := h0
  have k3 := agK3 [l.getD 1 0, 4] [l.getD 2 0, 5] [l.getD 0 0, 1] [l.getD 0 0, 2] [l.getD 0 0, 3]
  have b3a := bad3A [l.getD 1 0, 4] [l.getD 2 0, 5] [l.getD 0 0, 1] [l.getD 0 0, 2] [l.getD 0 0, 3]
  have b3b := bad3B [l.getD 1 0, 4] [l.getD 2 0, 5] [l.getD 0 0, 1] [l.getD 0 0, 2] [l.getD 0 0, 3]
  have lA := pairB_length [l.getD 1 0, 4]
  have lF := pairB_length [l.getD 2 0, 5]
  have lI := pairB_length [l.getD 0 0, 1]
  have lS := pairB_length [l.getD 0 0, 2]
  have lO := pairB_length [l.getD 0 0, 3]
  have ho := fun h w => own_calls (l.getD 0 0) h w
  have hpa := fun B m cb hm w hB hcb => rpair_calls [l.getD 1 0, 4] B m cb hm (by simp) w hB hcb
  have hpf := fun B m cb hm w hB hcb => rpair_calls [l.getD 2 0, 5] B m cb hm (by simp) w hB hcb
  unfold ownI ownS ownO at ho
  obtain ⟨A, eA⟩ : ∃ z, pairB [l.getD 1 0, 4] = z := ⟨_, rfl⟩
  obtain ⟨F, eF⟩ : ∃ z, pairB [l.getD 2 0, 5] = z := ⟨_, rfl⟩
  obtain ⟨I, eI⟩ : ∃ z, pairB [l.getD 0 0, 1] = z := ⟨_, rfl⟩
  obtain ⟨S, eS⟩ : ∃ z, pairB [l.getD 0 0, 2] = z := ⟨_, rfl⟩
  obtain ⟨O, eO⟩ : ∃ z, pairB [l.getD 0 0, 3] = z := ⟨_, rfl⟩
  rw [eA] at lA hpa k3 b3a b3b
  rw [eF] at lF hpf k3 b3a b3b
  rw [eI] at lI ho k3 b3a b3b
  rw [eS] at lS ho k3 b3a b3b
  rw [eO] at lO ho
  have hB := fun w => abegin_false_calls A F (pubK I) (pubK S) k32 lA lF (pubK_length lI) (pubK_length lS) (by simp) w
  have hN := fun (O : List UInt8) (lO : O.length = 64) w => aanswer_false_calls (pubK A) (pubK F) I S O (pubK_length lA) (pubK_length lF) lI lS lO w
  rw [b3b] at hB
  rw [b3a, k3] at hN
  have hU := fun w => bundle_false_calls I S O lI lS lO w
  have hW := fun w => bundle_true_calls I S O lI lS lO w
  rw [bnd_false] at hU
  rw [bnd_true] at hW
  have lk := agK_length [(A, pubK S), (F, pubK I), (F, pubK S)]
  obtain ⟨k, ek⟩ : ∃ k, agK [(A, pubK S), (F, pubK I), (F, pubK S)] = k := ⟨_, rfl⟩
  rw [ek] at hB hN lk
  clear k3 b3a b3b eA eF eI eS eO ek
  have lA' := pubK_length lA
  have lF' := pubK_length lF
  have lI' := pubK_length lI
  have lS' := pubK_length lS
  have lO' := pubK_length lO
  have bA : (bys A).length = 64 := by rw [bys_length]; exact lA
  have bF : (bys F).length = 64 := by rw [bys_length]; exact lF
  have bk : (bys k).length = 32 := by rw [bys_length]; exact lk
  have pA : ((bys A).drop 32).take 32 = bys (pubK A) := by unfold pubK; simp [bys]
  have pF : ((bys F).drop 32).take 32 = bys (pubK F) := by unfold pubK; simp [bys]
  have bpA : (bys (pubK A)).length = 32 := by rw [bys_length]; exact lA'
  have bpF : (bys (pubK F)).length = 32 := by rw [bys_length]; exact lF'
  have hz : k32.length = 32 := by simp
  have lz : (bys (List.replicate 32 0)).length = 32 := by rw [bys_length, List.length_replicate]
  have lz2 : (bys (List.replicate 32 0) ++ bys (List.replicate 32 0)).length = 64 := by rw [List.length_append, lz]
  have ezo : (bys (List.replicate 32 0) ++ bys (List.replicate 32 0) ++ bys (List.replicate 32 0) ++ bys (List.replicate 32 0) ++ bys (List.replicate 32 0) ++ bys (List.replicate 32 0) ++ [Value.bool false]).length = 193 := by kernel_rfl
  have ezb : (bys (List.replicate 32 0) ++ bys (List.replicate 32 0) ++ bys (List.replicate 32 0) ++ [Value.bool false]).length = 97 := by kernel_rfl
  have ht := ho true
  have hf := ho false
  have hN1 := hN O lO
  have hN2 := hN A lA
  clear ho hN
  have fw := (c3_f (h := true) lI lS lO).len
  have gw := c3_one I S O true
  have fo := (c3_f (h := false) lI lS lO).len
  have go := c3_one I S O false
  have fx := (c3_f (h := false) lI lS lA).len
  have e2 := c3_set2 (h := false) lI lS lO lA
  have qO : ((c3 I S O true).drop 160).take 32 = bys (pubK O) := part_sub (k := 32) (m := 32) (c3_f (h := true) lI lS lO).p2 (by omega)
  obtain ⟨u0, u1, u2, u3, u4⟩ := c3_f (h := false) lI' lS' hz
  obtain ⟨x0, x1, x2, x3, x4⟩ := c3_f (h := true) lI' lS' lO'
  have vu := c3_one (pubK I) (pubK S) k32 false
  have vx := c3_one (pubK I) (pubK S) (pubK O) true
  obtain ⟨ow, how⟩ : ∃ l, c3 I S O true = l := ⟨_, rfl⟩
  obtain ⟨oo, hoo⟩ : ∃ l, c3 I S O false = l := ⟨_, rfl⟩
  obtain ⟨oa, hoa⟩ : ∃ l, c3 I S A false = l := ⟨_, rfl⟩
  obtain ⟨bu, hbu⟩ : ∃ l, c3 (pubK I) (pubK S) k32 false = l := ⟨_, rfl⟩
  obtain ⟨bw, hbw⟩ : ∃ l, c3 (pubK I) (pubK S) (pubK O) true = l := ⟨_, rfl⟩
  rw [how] at ht hW fw gw qO
  rw [hoo] at hf hU fo go hN1 e2
  rw [hoa] at fx hN2 e2
  rw [hbu] at hB hU u0 u1 u2 u3 u4 vu
  rw [hbw] at hW x0 x1 x2 x3 x4 vx
  have bpI : (bys (pubK I)).length = 32 := by rw [bys_length]; exact lI'
  have bpS : (bys (pubK S)).length = 32 := by rw [bys_length]; exact lS'
  have bpO : (bys (pubK O)).length = 32 := by rw [bys_length]; exact lO'
  have bz : (bys k32).length = 32 := by rw [bys_length]; exact hz
  have lbl : (bys l).length = 3 := by rw [bys_length]; exact hl
  refine enter (n := 122) (R := fun e L => e = .returned (.bool true)) [.agg (bys l).toArray] Try.func6 rfl rfl rfl (St.refl w) ?_ (fun e w' L' h H => ⟨h, H.kept⟩)
  refine VC_seq ?_
  refine VC_region ?_
  refine l_boxA rfl rfl ?_
  intro b1
  refine vl_v (q_assign rfl) rfl ?_
  refine vl_nil ?_
  refine (th_n ?_)
  refine VC_seq ?_
  refine VC_region ?_
  refine vl_v (q_callV Try.func7 rfl rfl rfl (fun w1 H1 => awake9_calls w1)) rfl ?_
  refine vl_v (q_assign rfl) rfl ?_
  refine vl_nil ?_
  refine (th_n ?_)
  refine VC_seq ?_
  refine VC_region ?_
  first | (refine vl_v (q_idxA (m := 0) Try.underlying42 sz5 rfl rfl (by omega) (r := _) (by rw [Nat.mul_one, Nat.zero_add])) rfl ?_) | (refine vl_v (q_idxA (m := 0) Try.underlying42 sz5 rfl rfl (by omega) rfl) rfl ?_)
  first | (refine vl_v (q_load 0 Try.underlying5 rfl rfl rfl (bys_at (by first | with_reducible assumption | omega | exact lz | exact lz2 | rw [fo] | rw [fw] | (rw [fo]; omega)))) rfl ?_) | (refine vl_v (q_load 0 Try.underlying5 rfl rfl rfl rfl) rfl ?_)
  refine vl_v (q_callV Try.func13 rfl rfl rfl (fun w1 H1 => ht w1)) rfl ?_
  refine l_allocA zr34 rfl ?_
  intro b4
  refine l_storeA 0 rfl rfl rfl sz34 fw gw ezo ?_
  simp only [List.set_cons_zero, List.set_cons_succ]
  refine vl_nil ?_
  refine (th_n ?_)
  refine VC_seq ?_
  refine VC_region ?_
  first | (refine vl_v (q_idxA (m := 0) Try.underlying42 sz5 rfl rfl (by omega) (r := _) (by rw [Nat.mul_one, Nat.zero_add])) rfl ?_) | (refine vl_v (q_idxA (m := 0) Try.underlying42 sz5 rfl rfl (by omega) rfl) rfl ?_)
  first | (refine vl_v (q_load 1 Try.underlying5 rfl rfl rfl (bys_at (by first | with_reducible assumption | omega | exact lz | exact lz2 | rw [fo] | rw [fw] | (rw [fo]; omega)))) rfl ?_) | (refine vl_v (q_load 1 Try.underlying5 rfl rfl rfl rfl) rfl ?_)
  refine vl_v (q_callV Try.func13 rfl rfl rfl (fun w1 H1 => hf w1)) rfl ?_
  refine l_allocA zr34 rfl ?_
  intro b5
  refine l_storeA 0 rfl rfl rfl sz34 fo go ezo ?_
  simp only [List.set_cons_zero, List.set_cons_succ]
  refine vl_nil ?_
  refine (th_n ?_)
  refine VC_seq ?_
  refine VC_region ?_
  first | (refine vl_v (q_idxA (m := 1) Try.underlying42 sz5 rfl rfl (by omega) (r := _) (by rw [Nat.mul_one, Nat.zero_add])) rfl ?_) | (refine vl_v (q_idxA (m := 1) Try.underlying42 sz5 rfl rfl (by omega) rfl) rfl ?_)
  first | (refine vl_v (q_load 2 Try.underlying5 rfl rfl rfl (bys_at (by first | with_reducible assumption | omega | exact lz | exact lz2 | rw [fo] | rw [fw] | (rw [fo]; omega)))) rfl ?_) | (refine vl_v (q_load 2 Try.underlying5 rfl rfl rfl rfl) rfl ?_)
  refine l_litA (cs := bys [_, UInt8.ofNat 4]) Try.underlying45 in5 (by decide) rfl rfl rfl rfl (by first | (with_reducible first | exact bys_one _ | exact u32s_one _ | exact u64s_one _ | exact i64s_one _ | exact n64s_one _ | assumption) | exact bys_one _ | exact u32s_one _ | exact u64s_one _ | exact i64s_one _ | exact one_all rfl | (refine app_one ?_ ?_ <;> first | exact bys_one _ | exact one_all rfl | (simp; done))) rfl rfl ?_
  intro b26
  refine vl_v (q_callV Try.func14 rfl rfl rfl (fun w1 H1 => hpa _ _ _ rfl w1 (Reads.row 0 rfl w1 H1) (by simp))) rfl ?_
  refine l_allocA zr25 rfl ?_
  intro b6
  first | (refine l_storeA 0 rfl rfl rfl sz25 (by first | with_reducible assumption | omega | exact lz | exact lz2 | rw [fo] | rw [fw] | (rw [fo]; omega)) (by first | (with_reducible first | exact bys_one _ | exact u32s_one _ | exact u64s_one _ | exact i64s_one _ | exact n64s_one _ | assumption) | exact bys_one _ | exact u32s_one _ | exact u64s_one _ | exact i64s_one _ | exact one_all rfl | (refine app_one ?_ ?_ <;> first | exact bys_one _ | exact one_all rfl | (simp; done))) (by first | with_reducible assumption | omega | exact lz | exact lz2 | rw [fo] | rw [fw] | (rw [fo]; omega)) ?_) | (refine l_storeG 0 rfl rfl rfl sz25 (by first | with_reducible assumption | omega | exact lz | exact lz2 | rw [fo] | rw [fw] | (rw [fo]; omega)) (by first | (with_reducible first | exact bys_one _ | exact u32s_one _ | exact u64s_one _ | exact i64s_one _ | exact n64s_one _ | assumption) | exact bys_one _ | exact u32s_one _ | exact u64s_one _ | exact i64s_one _ | exact one_all rfl | (refine app_one ?_ ?_ <;> first | exact bys_one _ | exact one_all rfl | (simp; done))) (by first | with_reducible assumption | omega | exact lz | exact lz2 | rw [fo] | rw [fw] | (rw [fo]; omega)) ?_)
  simp only [List.set_cons_zero, List.set_cons_succ]
  refine vl_nil ?_
  refine (th_n ?_)
  refine VC_seq ?_
  refine VC_region ?_
  first | (refine vl_v (q_idxA (m := 2) Try.underlying42 sz5 rfl rfl (by omega) (r := _) (by rw [Nat.mul_one, Nat.zero_add])) rfl ?_) | (refine vl_v (q_idxA (m := 2) Try.underlying42 sz5 rfl rfl (by omega) rfl) rfl ?_)
  first | (refine vl_v (q_load 4 Try.underlying5 rfl rfl rfl (bys_at (by first | with_reducible assumption | omega | exact lz | exact lz2 | rw [fo] | rw [fw] | (rw [fo]; omega)))) rfl ?_) | (refine vl_v (q_load 4 Try.underlying5 rfl rfl rfl rfl) rfl ?_)
  refine l_litA (cs := bys [_, UInt8.ofNat 5]) Try.underlying45 in5 (by decide) rfl rfl rfl rfl (by first | (with_reducible first | exact bys_one _ | exact u32s_one _ | exact u64s_one _ | exact i64s_one _ | exact n64s_one _ | assumption) | exact bys_one _ | exact u32s_one _ | exact u64s_one _ | exact i64s_one _ | exact one_all rfl | (refine app_one ?_ ?_ <;> first | exact bys_one _ | exact one_all rfl | (simp; done))) rfl rfl ?_
  intro b30
  refine vl_v (q_callV Try.func14 rfl rfl rfl (fun w1 H1 => hpf _ _ _ rfl w1 (Reads.row 0 rfl w1 H1) (by simp))) rfl ?_
  refine l_allocA zr25 rfl ?_
  intro b7
  first | (refine l_storeA 0 rfl rfl rfl sz25 (by first | with_reducible assumption | omega | exact lz | exact lz2 | rw [fo] | rw [fw] | (rw [fo]; omega)) (by first | (with_reducible first | exact bys_one _ | exact u32s_one _ | exact u64s_one _ | exact i64s_one _ | exact n64s_one _ | assumption) | exact bys_one _ | exact u32s_one _ | exact u64s_one _ | exact i64s_one _ | exact one_all rfl | (refine app_one ?_ ?_ <;> first | exact bys_one _ | exact one_all rfl | (simp; done))) (by first | with_reducible assumption | omega | exact lz | exact lz2 | rw [fo] | rw [fw] | (rw [fo]; omega)) ?_) | (refine l_storeG 0 rfl rfl rfl sz25 (by first | with_reducible assumption | omega | exact lz | exact lz2 | rw [fo] | rw [fw] | (rw [fo]; omega)) (by first | (with_reducible first | exact bys_one _ | exact u32s_one _ | exact u64s_one _ | exact i64s_one _ | exact n64s_one _ | assumption) | exact bys_one _ | exact u32s_one _ | exact u64s_one _ | exact i64s_one _ | exact one_all rfl | (refine app_one ?_ ?_ <;> first | exact bys_one _ | exact one_all rfl | (simp; done))) (by first | with_reducible assumption | omega | exact lz | exact lz2 | rw [fo] | rw [fw] | (rw [fo]; omega)) ?_)
  simp only [List.set_cons_zero, List.set_cons_succ]
  refine vl_nil ?_
  refine (th_n ?_)
  refine VC_seq ?_
  refine VC_region ?_
  first | (refine vl_v (q_loads 4 Try.underlying34 rfl rfl rfl sz34 (by first | with_reducible assumption | omega | exact lz | exact lz2 | rw [fo] | rw [fw] | (rw [fo]; omega))) rfl ?_) | (refine vl_v (q_loadsAt 4 Try.underlying34 rfl rfl rfl sz34 (by rfl) (by first | with_reducible assumption | omega | exact lz | exact lz2 | rw [fo] | rw [fw] | (rw [fo]; omega))) rfl ?_)
  refine vl_v (q_callV Try.func12 rfl rfl rfl (fun w1 H1 => hU w1)) rfl ?_
  refine l_allocA zr27 rfl ?_
  intro b8
  refine l_storeA 0 rfl rfl rfl sz27 u0 vu ezb ?_
  simp only [List.set_cons_zero, List.set_cons_succ]
  refine vl_nil ?_
  refine (th_n ?_)
  refine VC_seq ?_
  refine VC_region ?_
  first | (refine vl_v (q_loads 3 Try.underlying25 rfl rfl rfl sz25 (by first | with_reducible assumption | omega | exact lz | exact lz2 | rw [fo] | rw [fw] | (rw [fo]; omega))) rfl ?_) | (refine vl_v (q_loadsAt 3 Try.underlying25 rfl rfl rfl sz25 (by rfl) (by first | with_reducible assumption | omega | exact lz | exact lz2 | rw [fo] | rw [fw] | (rw [fo]; omega))) rfl ?_)
  first | (refine vl_v (q_loads 1 Try.underlying25 rfl rfl rfl sz25 (by first | with_reducible assumption | omega | exact lz | exact lz2 | rw [fo] | rw [fw] | (rw [fo]; omega))) rfl ?_) | (refine vl_v (q_loadsAt 1 Try.underlying25 rfl rfl rfl sz25 (by rfl) (by first | with_reducible assumption | omega | exact lz | exact lz2 | rw [fo] | rw [fw] | (rw [fo]; omega))) rfl ?_)
  refine vl_v (q_loads 0 Try.underlying27 rfl rfl rfl sz27 u0) rfl ?_
  refine vl_v (q_callV Try.func8 rfl rfl rfl (fun w1 H1 => hB w1)) rfl ?_
  refine vl_v (q_move rfl) rfl ?_
  refine vl_v (q_ext rfl rfl) rfl ?_
  refine vl_v (q_ext rfl rfl) rfl ?_
  refine l_allocA zr23 rfl ?_
  intro b9
  first | (refine l_storeA 0 rfl rfl rfl sz23 (by first | with_reducible assumption | omega | exact lz | exact lz2 | rw [fo] | rw [fw] | (rw [fo]; omega)) (by first | (with_reducible first | exact bys_one _ | exact u32s_one _ | exact u64s_one _ | exact i64s_one _ | exact n64s_one _ | assumption) | exact bys_one _ | exact u32s_one _ | exact u64s_one _ | exact i64s_one _ | exact one_all rfl | (refine app_one ?_ ?_ <;> first | exact bys_one _ | exact one_all rfl | (simp; done))) (by first | with_reducible assumption | omega | exact lz | exact lz2 | rw [fo] | rw [fw] | (rw [fo]; omega)) ?_) | (refine l_storeG 0 rfl rfl rfl sz23 (by first | with_reducible assumption | omega | exact lz | exact lz2 | rw [fo] | rw [fw] | (rw [fo]; omega)) (by first | (with_reducible first | exact bys_one _ | exact u32s_one _ | exact u64s_one _ | exact i64s_one _ | exact n64s_one _ | assumption) | exact bys_one _ | exact u32s_one _ | exact u64s_one _ | exact i64s_one _ | exact one_all rfl | (refine app_one ?_ ?_ <;> first | exact bys_one _ | exact one_all rfl | (simp; done))) (by first | with_reducible assumption | omega | exact lz | exact lz2 | rw [fo] | rw [fw] | (rw [fo]; omega)) ?_)
  simp only [List.set_cons_zero, List.set_cons_succ]
  refine vl_v (q_assign rfl) rfl ?_
  refine vl_nil ?_
  refine (th_n ?_)
  refine VC_seq ?_
  refine VC_region ?_
  first | (refine vl_v (q_loads 6 Try.underlying34 rfl rfl rfl sz34 (by first | with_reducible assumption | omega | exact lz | exact lz2 | rw [fo] | rw [fw] | (rw [fo]; omega))) rfl ?_) | (refine vl_v (q_loadsAt 6 Try.underlying34 rfl rfl rfl sz34 (by rfl) (by first | with_reducible assumption | omega | exact lz | exact lz2 | rw [fo] | rw [fw] | (rw [fo]; omega))) rfl ?_)
  refine vl_v (q_fldA fo25_1 (by decide) rfl rfl) rfl ?_
  refine vl_v (q_loadsAt 4 Try.underlying23 rfl rfl rfl sz23 pA bpA) rfl ?_
  refine vl_v (q_fldA fo25_1 (by decide) rfl rfl) rfl ?_
  refine vl_v (q_loadsAt 2 Try.underlying23 rfl rfl rfl sz23 pF bpF) rfl ?_
  refine vl_v (q_callV Try.func10 rfl rfl rfl (fun w1 H1 => hN1 w1)) rfl ?_
  refine vl_v (q_move rfl) rfl ?_
  refine vl_v (q_ext rfl rfl) rfl ?_
  refine vl_v (q_ext rfl rfl) rfl ?_
  refine l_allocA zr23 rfl ?_
  intro b11
  first | (refine l_storeA 0 rfl rfl rfl sz23 (by first | with_reducible assumption | omega | exact lz | exact lz2 | rw [fo] | rw [fw] | (rw [fo]; omega)) (by first | (with_reducible first | exact bys_one _ | exact u32s_one _ | exact u64s_one _ | exact i64s_one _ | exact n64s_one _ | assumption) | exact bys_one _ | exact u32s_one _ | exact u64s_one _ | exact i64s_one _ | exact one_all rfl | (refine app_one ?_ ?_ <;> first | exact bys_one _ | exact one_all rfl | (simp; done))) (by first | with_reducible assumption | omega | exact lz | exact lz2 | rw [fo] | rw [fw] | (rw [fo]; omega)) ?_) | (refine l_storeG 0 rfl rfl rfl sz23 (by first | with_reducible assumption | omega | exact lz | exact lz2 | rw [fo] | rw [fw] | (rw [fo]; omega)) (by first | (with_reducible first | exact bys_one _ | exact u32s_one _ | exact u64s_one _ | exact i64s_one _ | exact n64s_one _ | assumption) | exact bys_one _ | exact u32s_one _ | exact u64s_one _ | exact i64s_one _ | exact one_all rfl | (refine app_one ?_ ?_ <;> first | exact bys_one _ | exact one_all rfl | (simp; done))) (by first | with_reducible assumption | omega | exact lz | exact lz2 | rw [fo] | rw [fw] | (rw [fo]; omega)) ?_)
  simp only [List.set_cons_zero, List.set_cons_succ]
  refine vl_v (q_assign rfl) rfl ?_
  refine vl_nil ?_
  refine (th_n ?_)
  refine VC_seq ?_
  refine VC_region ?_
  first | (refine vl_v (q_loads 7 Try.underlying34 rfl rfl rfl sz34 (by first | with_reducible assumption | omega | exact lz | exact lz2 | rw [fo] | rw [fw] | (rw [fo]; omega))) rfl ?_) | (refine vl_v (q_loadsAt 7 Try.underlying34 rfl rfl rfl sz34 (by rfl) (by first | with_reducible assumption | omega | exact lz | exact lz2 | rw [fo] | rw [fw] | (rw [fo]; omega))) rfl ?_)
  refine l_allocA zr34 rfl ?_
  intro b13
  refine l_storeA 0 rfl rfl rfl sz34 fo go ezo ?_
  simp only [List.set_cons_zero, List.set_cons_succ]
  refine vl_nil ?_
  refine (th_n ?_)
  refine VC_seq ?_
  refine VC_region ?_
  first | (refine vl_v (q_loads 6 Try.underlying25 rfl rfl rfl sz25 (by first | with_reducible assumption | omega | exact lz | exact lz2 | rw [fo] | rw [fw] | (rw [fo]; omega))) rfl ?_) | (refine vl_v (q_loadsAt 6 Try.underlying25 rfl rfl rfl sz25 (by rfl) (by first | with_reducible assumption | omega | exact lz | exact lz2 | rw [fo] | rw [fw] | (rw [fo]; omega))) rfl ?_)
  refine vl_v (q_fldA fo34_2 (by decide) rfl rfl) rfl ?_
  refine l_storeG 0 rfl rfl rfl sz25 bA (bys_one _) (by rw [fo]; omega) ?_
  simp only [List.set_cons_zero, List.set_cons_succ]
  refine vl_nil ?_
  refine (th_n ?_)
  refine VC_seq ?_
  rw [e2]
  refine VC_region ?_
  refine vl_v (q_loads 0 Try.underlying34 rfl rfl rfl sz34 fx) rfl ?_
  refine vl_v (q_fldA fo25_1 (by decide) rfl rfl) rfl ?_
  refine vl_v (q_loadsAt 6 Try.underlying23 rfl rfl rfl sz23 pA bpA) rfl ?_
  refine vl_v (q_fldA fo25_1 (by decide) rfl rfl) rfl ?_
  refine vl_v (q_loadsAt 4 Try.underlying23 rfl rfl rfl sz23 pF bpF) rfl ?_
  refine vl_v (q_callV Try.func10 rfl rfl rfl (fun w1 H1 => hN2 w1)) rfl ?_
  refine vl_v (q_move rfl) rfl ?_
  refine vl_v (q_ext rfl rfl) rfl ?_
  refine vl_v (q_ext rfl rfl) rfl ?_
  refine l_allocA zr23 rfl ?_
  intro b14
  first | (refine l_storeA 0 rfl rfl rfl sz23 (by first | with_reducible assumption | omega | exact lz | exact lz2 | rw [fo] | rw [fw] | (rw [fo]; omega)) (by first | (with_reducible first | exact bys_one _ | exact u32s_one _ | exact u64s_one _ | exact i64s_one _ | exact n64s_one _ | assumption) | exact bys_one _ | exact u32s_one _ | exact u64s_one _ | exact i64s_one _ | exact one_all rfl | (refine app_one ?_ ?_ <;> first | exact bys_one _ | exact one_all rfl | (simp; done))) (by first | with_reducible assumption | omega | exact lz | exact lz2 | rw [fo] | rw [fw] | (rw [fo]; omega)) ?_) | (refine l_storeG 0 rfl rfl rfl sz23 (by first | with_reducible assumption | omega | exact lz | exact lz2 | rw [fo] | rw [fw] | (rw [fo]; omega)) (by first | (with_reducible first | exact bys_one _ | exact u32s_one _ | exact u64s_one _ | exact i64s_one _ | exact n64s_one _ | assumption) | exact bys_one _ | exact u32s_one _ | exact u64s_one _ | exact i64s_one _ | exact one_all rfl | (refine app_one ?_ ?_ <;> first | exact bys_one _ | exact one_all rfl | (simp; done))) (by first | with_reducible assumption | omega | exact lz | exact lz2 | rw [fo] | rw [fw] | (rw [fo]; omega)) ?_)
  simp only [List.set_cons_zero, List.set_cons_succ]
  refine vl_v (q_assign rfl) rfl ?_
  refine vl_nil ?_
  refine (th_n ?_)
  refine VC_seq ?_
  refine VC_region ?_
  first | (refine vl_v (q_loads 10 Try.underlying34 rfl rfl rfl sz34 (by first | with_reducible assumption | omega | exact lz | exact lz2 | rw [fo] | rw [fw] | (rw [fo]; omega))) rfl ?_) | (refine vl_v (q_loadsAt 10 Try.underlying34 rfl rfl rfl sz34 (by rfl) (by first | with_reducible assumption | omega | exact lz | exact lz2 | rw [fo] | rw [fw] | (rw [fo]; omega))) rfl ?_)
  refine vl_v (q_callV Try.func12 rfl rfl rfl (fun w1 H1 => hW w1)) rfl ?_
  refine l_allocA zr27 rfl ?_
  intro b16
  refine l_storeA 0 rfl rfl rfl sz27 x0 vx ezb ?_
  simp only [List.set_cons_zero, List.set_cons_succ]
  refine vl_nil ?_
  refine (th_n ?_)
  refine VC_seq ?_
  refine VC_region ?_
  refine vl_v (q_move rfl) rfl ?_
  refine vl_v (q_move rfl) rfl ?_
  refine vl_vg rfl (q_fldA fo27_2 (by decide) rfl rfl) rfl ?_
  refine vl_vg rfl (q_loadsAt 5 Try.underlying23 rfl rfl rfl sz23 u3 bz) rfl ?_
  refine vl_vg rfl (q_build (c' := bys (List.replicate 32 0)) rfl (by kernel_rfl)) rfl ?_
  refine vl_vg rfl (q_eqT flat32 rfl rfl (fits_bys' hz) rfl) rfl ?_
  first | (refine vl_v (q_pickT rfl rfl) rfl ?_) | (refine vl_v (q_pickF rfl rfl) rfl ?_)
  refine vl_v (q_move rfl) rfl ?_
  refine vl_vg rfl (q_fldA fo27_3 (by decide) rfl rfl) rfl ?_
  refine vl_vg rfl (q_load 5 Try.underlying4 rfl rfl rfl u4) rfl ?_
  refine vl_vg rfl (q_not rfl) rfl ?_
  first | (refine vl_v (q_pickT rfl rfl) rfl ?_) | (refine vl_v (q_pickF rfl rfl) rfl ?_)
  refine vl_v (q_move rfl) rfl ?_
  refine vl_vg rfl (q_fldA fo27_3 (by decide) rfl rfl) rfl ?_
  refine vl_vg rfl (q_load 0 Try.underlying4 rfl rfl rfl x4) rfl ?_
  first | (refine vl_v (q_pickT rfl rfl) rfl ?_) | (refine vl_v (q_pickF rfl rfl) rfl ?_)
  refine vl_v (q_move rfl) rfl ?_
  refine vl_vg rfl (q_fldA fo27_2 (by decide) rfl rfl) rfl ?_
  refine vl_vg rfl (q_loadsAt 0 Try.underlying23 rfl rfl rfl sz23 x3 bpO) rfl ?_
  refine vl_vg rfl (q_fldA fo34_2 (by decide) rfl rfl) rfl ?_
  refine vl_vg rfl (q_fldA fo25_1 (by decide) rfl rfl) rfl ?_
  refine vl_vg rfl (q_loadsAt 11 Try.underlying23 rfl rfl rfl sz23 qO bpO) rfl ?_
  refine vl_vg rfl (q_eqT flat32 rfl rfl (fits_bys' lO') rfl) rfl ?_
  first | (refine vl_v (q_pickT rfl rfl) rfl ?_) | (refine vl_v (q_pickF rfl rfl) rfl ?_)
  refine vl_v (q_move rfl) rfl ?_
  refine vl_vg rfl (q_fldA fo27_0 (by decide) rfl rfl) rfl ?_
  refine vl_vg rfl (q_loadsAt 5 Try.underlying23 rfl rfl rfl sz23 u1 bpI) rfl ?_
  refine vl_vg rfl (q_fldA fo27_0 (by decide) rfl rfl) rfl ?_
  refine vl_vg rfl (q_loadsAt 0 Try.underlying23 rfl rfl rfl sz23 x1 bpI) rfl ?_
  refine vl_vg rfl (q_eqT flat32 rfl rfl (fits_bys' lI') rfl) rfl ?_
  first | (refine vl_v (q_pickT rfl rfl) rfl ?_) | (refine vl_v (q_pickF rfl rfl) rfl ?_)
  refine vl_v (q_move rfl) rfl ?_
  refine vl_vg rfl (q_fldA fo27_1 (by decide) rfl rfl) rfl ?_
  refine vl_vg rfl (q_loadsAt 5 Try.underlying23 rfl rfl rfl sz23 u2 bpS) rfl ?_
  refine vl_vg rfl (q_fldA fo27_1 (by decide) rfl rfl) rfl ?_
  refine vl_vg rfl (q_loadsAt 0 Try.underlying23 rfl rfl rfl sz23 x2 bpS) rfl ?_
  refine vl_vg rfl (q_eqT flat32 rfl rfl (fits_bys' lS') rfl) rfl ?_
  first | (refine vl_v (q_pickT rfl rfl) rfl ?_) | (refine vl_v (q_pickF rfl rfl) rfl ?_)
  refine vl_v (q_move rfl) rfl ?_
  refine vl_vg rfl (q_move rfl) rfl ?_
  refine vl_vg rfl (q_move rfl) rfl ?_
  refine vl_vg rfl (q_true (q_eql_n Try.underlying29 rfl rfl) (decide_eq_true rfl)) rfl ?_
  first | (refine vl_v (q_pickT rfl rfl) rfl ?_) | (refine vl_v (q_pickF rfl rfl) rfl ?_)
  refine vl_v (q_move rfl) rfl ?_
  refine vl_vg rfl (q_move rfl) rfl ?_
  refine vl_vg rfl (q_move rfl) rfl ?_
  refine vl_vg rfl (q_true (q_eql_n Try.underlying29 rfl rfl) (decide_eq_true rfl)) rfl ?_
  first | (refine vl_v (q_pickT rfl rfl) rfl ?_) | (refine vl_v (q_pickF rfl rfl) rfl ?_)
  refine vl_v (q_move rfl) rfl ?_
  first | (refine vl_vg rfl (q_loads 4 Try.underlying23 rfl rfl rfl sz23 (by first | with_reducible assumption | omega | exact lz | exact lz2 | rw [fo] | rw [fw] | (rw [fo]; omega))) rfl ?_) | (refine vl_vg rfl (q_loadsAt 4 Try.underlying23 rfl rfl rfl sz23 (by rfl) (by first | with_reducible assumption | omega | exact lz | exact lz2 | rw [fo] | rw [fw] | (rw [fo]; omega))) rfl ?_)
  first | (refine vl_vg rfl (q_loads 3 Try.underlying23 rfl rfl rfl sz23 (by first | with_reducible assumption | omega | exact lz | exact lz2 | rw [fo] | rw [fw] | (rw [fo]; omega))) rfl ?_) | (refine vl_vg rfl (q_loadsAt 3 Try.underlying23 rfl rfl rfl sz23 (by rfl) (by first | with_reducible assumption | omega | exact lz | exact lz2 | rw [fo] | rw [fw] | (rw [fo]; omega))) rfl ?_)
  refine vl_vg rfl (q_eqT flat32 rfl rfl (fits_bys' lk) rfl) rfl ?_
  first | (refine vl_v (q_pickT rfl rfl) rfl ?_) | (refine vl_v (q_pickF rfl rfl) rfl ?_)
  refine vl_v (q_move rfl) rfl ?_
  first | (refine vl_vg rfl (q_loads 3 Try.underlying23 rfl rfl rfl sz23 (by first | with_reducible assumption | omega | exact lz | exact lz2 | rw [fo] | rw [fw] | (rw [fo]; omega))) rfl ?_) | (refine vl_vg rfl (q_loadsAt 3 Try.underlying23 rfl rfl rfl sz23 (by rfl) (by first | with_reducible assumption | omega | exact lz | exact lz2 | rw [fo] | rw [fw] | (rw [fo]; omega))) rfl ?_)
  first | (refine vl_vg rfl (q_loads 1 Try.underlying23 rfl rfl rfl sz23 (by first | with_reducible assumption | omega | exact lz | exact lz2 | rw [fo] | rw [fw] | (rw [fo]; omega))) rfl ?_) | (refine vl_vg rfl (q_loadsAt 1 Try.underlying23 rfl rfl rfl sz23 (by rfl) (by first | with_reducible assumption | omega | exact lz | exact lz2 | rw [fo] | rw [fw] | (rw [fo]; omega))) rfl ?_)
  refine vl_vg rfl (q_eqT flat32 rfl rfl (fits_bys' lk) rfl) rfl ?_
  first | (refine vl_v (q_pickT rfl rfl) rfl ?_) | (refine vl_v (q_pickF rfl rfl) rfl ?_)
  refine vl_v (q_assign rfl) rfl ?_
  refine vl_nil ?_
  refine (th_n ?_)
  refine VC_ret ?_
  refine ⟨_, res1 rfl rfl, ?_⟩
  exact rfl

namespace agreeOnce
open Go.ChangeShapes Go.WideShapes Go.ChangeAt Go.RowKit
theorem own : ownKnob Try.prog.godebug = none := by kernel_rfl
theorem laidOut : laidOutB Try.prog = true := by kernel_rfl
set_option maxRecDepth 100000 in
theorem lifted (os : Os) (started : os.Started) (H : Type) (enc : TypeId × Value → H) :
    ReturnsInHanded {} Try.checked os 6 .any (Rows.agreeOnceSpec.pre6 enc Try.prog Try.f6 Rows.agreeOnceRow.domain false) (Rows.agreeOnceSpec.post enc Try.prog Try.f6 false true false false) := by
  refine returnsInHanded_of_change (C := Try.checked) own started (by kernel_rfl) Try.func6
    (ChangeSpec.witness6 (enc := enc) (C := Try.checked) false ⟨#[], #[(.agg (List.replicate 3 (Value.int .u8 0)).toArray)], []⟩ 8 (by kernel_rfl) (by kernel_rfl) (by kernel_rfl) (by kernel_rfl)) ?_
  intro W base args ds gs before hval0 hW hcnd _
  have hval : ∀ (j : Nat) t v, Try.f6.params[j]? = some t → args[j]? = some v → Value.okWide Try.prog W .any base t v := hval0
  have hW' := hW
  obtain ⟨p, q, hA0, hV, rfl, hfz, hnd⟩ := hW
  have hA : DataW.TrodAll enc Try.prog W 0 (fun _ => true) true Try.f6.params.toList args.toList ds p := hA0
  rw [Try.params6] at hA hval
  obtain ⟨v0, vs0, d0, ds0, p0, q0, hargs, rfl, rfl, h0, r0⟩ := trodAll_cons hA
  obtain ⟨rfl, rfl, rfl⟩ := trodAll_nil r0
  obtain rfl : args = #[v0] := by cases args; simp_all
  obtain ⟨rfl, rfl⟩ := trodVars_none hV
  have k0 := h0
  have lt0 : ∀ x ∈ p0, x.block < W.heap.size := by obtain ⟨m, hm⟩ := k0; exact DataW.trod_lt m _ _ _ hm
  obtain ⟨cs0, e0, f0⟩ := open_flat (ks := (List.replicate 3 .u8)) 6 (by kernel_rfl) (by kernel_rfl) (hval 0 42 v0 rfl rfl) h0
  subst e0
  obtain ⟨l0, g0⟩ := open_seeds f0
  clear hA0 hval0
  refine (agreeOnce.walk W _ l0 g0).mono fun e W' ⟨he, hK⟩ => ?_
  subst he
  have bel := hK.below
  exact ⟨_, rfl, _, _, _, [], _, [], hW', trodAll_mk1 (shut_bool Try.underlying4 _), (trodAll_cons_mk (Below.trod laidOut (by kernel_rfl) (of_decide_eq_true (by kernel_rfl)) k0 bel lt0) trodAll_mk0), rfl, bel.frame _, fun h => by cases h⟩
theorem over : Rows.agreeOnceRow.holds Try.pinned (OpenSpec.ofChange Rows.agreeOnceSpec) :=
  OpenClaim.holds_of_wide 6 Try.f6 rfl rfl rfl rfl rfl rfl rfl ⟨rfl, rfl, rfl, rfl, rfl⟩ rfl rfl rfl rfl rfl (by kernel_rfl) Try.func6 (by kernel_rfl)
    (of_decide_eq_true (by kernel_rfl)) (by unfold Func.isWrapper; first | (rw [if_pos (by decide +kernel)]; kernel_rfl) | (rw [if_neg (by decide +kernel)]; exact ⟨rfl, rfl⟩))
    (fun os started H enc _ => lifted os started H enc)
theorem proved : Rows.AgreeOnceSaid := over
end agreeOnce
/-- The row. -/
theorem agreeOnce_holds : Rows.AgreeOnceSaid := agreeOnce.proved
#print axioms agreeOnce_holds
end Go.Proofs.Ytabmfndiepmcgaa
