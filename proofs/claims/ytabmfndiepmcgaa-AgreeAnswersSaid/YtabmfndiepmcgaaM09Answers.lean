/- The key that comes of any keys, for who is begun with, and the bundle: the statement AgreeAnswers. No condition. -/
import Derived.Test.YtabmfndiepmcgaaRows
import Derived.Test.YtabmfndiepmcgaaQ09h
namespace Go.Proofs.Ytabmfndiepmcgaa
open Go.RowKit Go.PBYtabmfndiepmcgaa
set_option linter.unusedVariables false
set_option linter.unusedSimpArgs false
set_option maxRecDepth 10000

set_option maxHeartbeats 4000000 in
theorem answers_true (id fr i s c : List UInt8) (hid : id.length = 32) (hfr : fr.length = 32) (hi : i.length = 64) (hs : s.length = 64) (hc : c.length = 64) (w : World) :
    Calls Try.prog 4 #[.agg (c3 i s c true).toArray, .agg (bys id).toArray, .agg (bys fr).toArray] w fun e w' => e = .returned (.bool true) ∧ Kept [] w w' := by
  have hN := fun w => aanswer_true_calls id fr i s c hid hfr hi hs hc w
  have hok : ∀ x ∈ [(s, id), (i, fr), (s, fr), (c, fr)], okI x := by
    intro x hx
    simp only [List.mem_cons, List.not_mem_nil, or_false] at hx
    rcases hx with rfl | rfl | rfl | rfl
    · exact ⟨hs, hid⟩
    · exact ⟨hi, hfr⟩
    · exact ⟨hs, hfr⟩
    · exact ⟨hc, hfr⟩
  have hrows : rowsL [(s, id), (i, fr), (s, fr), (c, fr)] = bys (s ++ id) ++ (bys (i ++ fr) ++ (bys (s ++ fr) ++ bys (c ++ fr))) := by
    unfold rowsL
    simp only [List.map_cons, List.map_nil, List.flatten_cons, List.flatten_nil, List.append_nil]
  have hlen : List.length [(s, id), (i, fr), (s, fr), (c, fr)] = 4 := by simp
  have hof := fun A n k hn h w hA => rkof_calls [(s, id), (i, fr), (s, fr), (c, fr)] A n k hn hok h w hA
  rw [hrows, hlen] at hof
  have hU := fun w => bundle_true_calls i s c hi hs hc w
  rw [bnd_true] at hU
  have lk := agK_length [(s, id), (i, fr), (s, fr), (c, fr)]
  obtain ⟨k, ek⟩ : ∃ k, agK [(s, id), (i, fr), (s, fr), (c, fr)] = k := ⟨_, rfl⟩
  obtain ⟨b, eb⟩ : ∃ b, badL [(s, id), (i, fr), (s, fr), (c, fr)] = b := ⟨_, rfl⟩
  rw [ek, eb] at hN hof
  rw [ek] at lk
  clear ek eb hok hrows hlen
  have li' := pubK_length hi
  have ls' := pubK_length hs
  have lc' := pubK_length hc
  have hz : k32.length = 32 := by simp
  obtain ⟨h0, p0, p1, p2, p3⟩ := c3_f (n := 64) (h := true) hi hs hc
  have q0 : ((c3 i s c true).drop 32).take 32 = bys (pubK i) := part_sub (k := 32) (m := 32) p0 (by omega)
  have q1 : ((c3 i s c true).drop 96).take 32 = bys (pubK s) := part_sub (k := 32) (m := 32) p1 (by omega)
  have q2 : ((c3 i s c true).drop 160).take 32 = bys (pubK c) := part_sub (k := 32) (m := 32) p2 (by omega)
  have hbu := bundle_built2 li' ls'
  obtain ⟨pi, epi⟩ : ∃ l, pubK i = l := ⟨_, rfl⟩
  obtain ⟨ps, eps⟩ : ∃ l, pubK s = l := ⟨_, rfl⟩
  obtain ⟨pc, epc⟩ : ∃ l, pubK c = l := ⟨_, rfl⟩
  rw [epi] at li' q0 hbu hU
  rw [eps] at ls' q1 hbu hU
  rw [epc] at lc' q2 hU
  clear epi eps epc
  have f0 := (c3_f (h := false) li' ls' hz).len
  have g0 := c3_one pi ps k32 false
  have e2 := c3_set2 (h := false) li' ls' hz lc'
  have e3 := c3_setB (h := false) (h' := true) li' ls' lc' (j := 96) (by omega)
  have f1 := (c3_f (h := true) li' ls' lc').len
  have f2 := (c3_f (h := false) li' ls' lc').len
  obtain ⟨ow, how⟩ : ∃ l, c3 i s c true = l := ⟨_, rfl⟩
  rw [how] at h0 p0 p1 p2 p3 q0 q1 q2 hN hU ⊢
  obtain ⟨r1, e1⟩ : ∃ r, s ++ id = r := ⟨_, rfl⟩
  obtain ⟨r2, e2'⟩ : ∃ r, i ++ fr = r := ⟨_, rfl⟩
  obtain ⟨r3, e3'⟩ : ∃ r, s ++ fr = r := ⟨_, rfl⟩
  obtain ⟨r4, e4⟩ : ∃ r, c ++ fr = r := ⟨_, rfl⟩
  rw [e1, e2', e3', e4] at hof
  have m1 : (bys r1).length = 96 := by rw [bys_length, ← e1, List.length_append]; omega
  have m2 : (bys r2).length = 96 := by rw [bys_length, ← e2', List.length_append]; omega
  have m3 : (bys r3).length = 96 := by rw [bys_length, ← e3', List.length_append]; omega
  have m4 : (bys r4).length = 96 := by rw [bys_length, ← e4, List.length_append]; omega
  have lid : (bys id).length = 32 := by rw [bys_length]; exact hid
  have lfr : (bys fr).length = 32 := by rw [bys_length]; exact hfr
  have li : (bys i).length = 64 := by rw [bys_length]; exact hi
  have ls : (bys s).length = 64 := by rw [bys_length]; exact hs
  have lc : (bys c).length = 64 := by rw [bys_length]; exact hc
  have lpi : (bys pi).length = 32 := by rw [bys_length]; exact li'
  have lps : (bys ps).length = 32 := by rw [bys_length]; exact ls'
  have lpc : (bys pc).length = 32 := by rw [bys_length]; exact lc'
  have bk : (bys k).length = 32 := by rw [bys_length]; exact lk
  have lz : (bys (List.replicate 32 0)).length = 32 := by rw [bys_length, List.length_replicate]
  have ezb : (bys (List.replicate 32 0) ++ bys (List.replicate 32 0) ++ bys (List.replicate 32 0) ++ [Value.bool false]).length = 97 := by kernel_rfl
  refine enter (n := 78) (R := fun e L => e = .returned (.bool true)) [.agg ow.toArray, .agg (bys id).toArray, .agg (bys fr).toArray] Try.func4 rfl rfl rfl (St.refl w) ?_ (fun e w' L' h H => ⟨h, H.kept⟩)
  refine VC_seq ?_
  refine VC_region ?_
  refine l_boxA rfl rfl ?_
  intro b3
  refine l_boxA rfl rfl ?_
  intro b4
  refine l_boxA rfl rfl ?_
  intro b5
  refine vl_v (q_assign rfl) rfl ?_
  refine vl_nil ?_
  refine (th_n ?_)
  refine VC_seq ?_
  refine VC_region ?_
  refine vl_v (q_callV Try.func7 rfl rfl rfl (fun w1 H1 => awake9_calls w1)) rfl ?_
  refine vl_v (q_assign rfl) rfl ?_
  refine vl_nil ?_
  refine (th_n ?_)
  refine VC_seq ?_
  refine VC_region ?_
  refine vl_v (q_fldA fo34_1 (by decide) rfl rfl) rfl ?_
  refine vl_v (q_loadsAt 2 Try.underlying25 rfl rfl rfl sz25 p1 ls) rfl ?_
  first | (refine vl_v (q_loads 1 Try.underlying23 rfl rfl rfl sz23 (by first | with_reducible assumption | omega | exact lz | (rw [f0]; omega) | (rw [f2]; omega))) rfl ?_) | (refine vl_v (q_loadsAt 1 Try.underlying23 rfl rfl rfl sz23 (by rfl) (by first | with_reducible assumption | omega | exact lz | (rw [f0]; omega) | (rw [f2]; omega))) rfl ?_)
  refine vl_v (q_buildS (tot := 96) (sizes := [64, 32]) (c' := bys r1) (by kernel_rfl) rfl rfl rfl rfl (by simp only [List.map_cons, List.map_nil, cellsL, Value.cells, ls, lid]) (row96_built hs hid e1)) rfl ?_
  refine vl_v (q_fldA fo34_0 (by decide) rfl rfl) rfl ?_
  refine vl_v (q_loadsAt 2 Try.underlying25 rfl rfl rfl sz25 p0 li) rfl ?_
  first | (refine vl_v (q_loads 0 Try.underlying23 rfl rfl rfl sz23 (by first | with_reducible assumption | omega | exact lz | (rw [f0]; omega) | (rw [f2]; omega))) rfl ?_) | (refine vl_v (q_loadsAt 0 Try.underlying23 rfl rfl rfl sz23 (by rfl) (by first | with_reducible assumption | omega | exact lz | (rw [f0]; omega) | (rw [f2]; omega))) rfl ?_)
  refine vl_v (q_buildS (tot := 96) (sizes := [64, 32]) (c' := bys r2) (by kernel_rfl) rfl rfl rfl rfl (by simp only [List.map_cons, List.map_nil, cellsL, Value.cells, li, lfr]) (row96_built hi hfr e2')) rfl ?_
  refine vl_v (q_fldA fo34_1 (by decide) rfl rfl) rfl ?_
  refine vl_v (q_loadsAt 2 Try.underlying25 rfl rfl rfl sz25 p1 ls) rfl ?_
  first | (refine vl_v (q_loads 0 Try.underlying23 rfl rfl rfl sz23 (by first | with_reducible assumption | omega | exact lz | (rw [f0]; omega) | (rw [f2]; omega))) rfl ?_) | (refine vl_v (q_loadsAt 0 Try.underlying23 rfl rfl rfl sz23 (by rfl) (by first | with_reducible assumption | omega | exact lz | (rw [f0]; omega) | (rw [f2]; omega))) rfl ?_)
  refine vl_v (q_buildS (tot := 96) (sizes := [64, 32]) (c' := bys r3) (by kernel_rfl) rfl rfl rfl rfl (by simp only [List.map_cons, List.map_nil, cellsL, Value.cells, ls, lfr]) (row96_built hs hfr e3')) rfl ?_
  refine l_litG [bys r1, bys r2, bys r3] Try.underlying37 in36 (by decide) (by decide) rfl rfl rfl (by intro v hv; simp only [List.mem_cons, List.not_mem_nil, or_false] at hv; rcases hv with rfl | rfl | rfl <;> assumption) rfl ?_
  intro b27
  simp only [List.flatten_cons, List.flatten_nil, List.append_nil]
  refine vl_v (q_assign rfl) rfl ?_
  refine vl_nil ?_
  refine (th_n ?_)
  refine VC_seq ?_
  refine VC_region ?_
  refine vl_v (q_fldA fo34_0 (by decide) rfl rfl) rfl ?_
  refine vl_v (q_fldA fo25_1 (by decide) rfl rfl) rfl ?_
  refine vl_v (q_loadsAt 3 Try.underlying23 rfl rfl rfl sz23 q0 lpi) rfl ?_
  refine vl_v (q_fldA fo34_1 (by decide) rfl rfl) rfl ?_
  refine vl_v (q_fldA fo25_1 (by decide) rfl rfl) rfl ?_
  refine vl_v (q_loadsAt 3 Try.underlying23 rfl rfl rfl sz23 q1 lps) rfl ?_
  refine vl_v (q_build (c' := c3 pi ps k32 false) rfl hbu) rfl ?_
  refine l_allocA zr27 rfl ?_
  intro b9
  refine l_storeA 0 rfl rfl rfl sz27 f0 g0 ezb ?_
  simp only [List.set_cons_zero, List.set_cons_succ]
  refine vl_nil ?_
  refine (th_n ?_)
  refine VC_seq ?_
  refine VC_seq ?_
  refine VC_region ?_
  refine vl_v (q_fldA fo34_3 (by decide) rfl rfl) rfl ?_
  refine vl_v (q_load 4 Try.underlying4 rfl rfl rfl p3) rfl ?_
  refine vl_nil ?_
  refine (th_n ?_)
  refine VC_yes (rfl) ?_
  refine VC_seq ?_
  refine VC_region ?_
  refine vl_v (q_move rfl) rfl ?_
  refine vl_v (q_fldA fo34_2 (by decide) rfl rfl) rfl ?_
  refine vl_v (q_loadsAt 4 Try.underlying25 rfl rfl rfl sz25 p2 lc) rfl ?_
  first | (refine vl_v (q_loads 2 Try.underlying23 rfl rfl rfl sz23 (by first | with_reducible assumption | omega | exact lz | (rw [f0]; omega) | (rw [f2]; omega))) rfl ?_) | (refine vl_v (q_loadsAt 2 Try.underlying23 rfl rfl rfl sz23 (by rfl) (by first | with_reducible assumption | omega | exact lz | (rw [f0]; omega) | (rw [f2]; omega))) rfl ?_)
  refine vl_v (q_buildS (tot := 96) (sizes := [64, 32]) (c' := bys r4) (by kernel_rfl) rfl rfl rfl rfl (by simp only [List.map_cons, List.map_nil, cellsL, Value.cells, lc, lfr]) (row96_built hc hfr e4)) rfl ?_
  refine l_litG [bys r4] Try.underlying37 in36 (by decide) (by decide) rfl rfl rfl (by intro v hv; rw [List.mem_singleton] at hv; subst hv; exact m4) rfl ?_
  intro b42
  simp only [List.flatten_cons, List.flatten_nil, List.append_nil]
  refine l_append 2 rfl rfl rfl Try.underlying37 Try.underlying37 in36 rfl (by decide) (Reads.row 0 rfl) (by first | with_reducible assumption | omega | exact lz | (rw [f0]; omega) | (rw [f2]; omega)) (by first | (with_reducible first | exact bys_one _ | exact u32s_one _ | exact u64s_one _ | exact i64s_one _ | exact n64s_one _ | assumption) | exact bys_one _ | exact u32s_one _ | exact u64s_one _ | exact i64s_one _ | exact one_all rfl | (refine app_one ?_ ?_ <;> first | exact bys_one _ | exact one_all rfl | (simp; done))) (by first | with_reducible assumption | omega | exact lz | (rw [f0]; omega) | (rw [f2]; omega)) (by first | with_reducible assumption | omega | exact lz | (rw [f0]; omega) | (rw [f2]; omega)) rfl ?_
  intro A43 c43 hc43
  simp only [List.set_cons_zero, List.set_cons_succ, ← bys_append, ← u32s_append, ← u64s_append, ← i64s_append, List.nil_append, Nat.zero_add]
  refine vl_v (q_assign rfl) rfl ?_
  refine vl_nil ?_
  refine (th_n ?_)
  refine VC_seq ?_
  refine VC_region ?_
  refine vl_v (q_fldA fo34_2 (by decide) rfl rfl) rfl ?_
  refine vl_v (q_fldA fo25_1 (by decide) rfl rfl) rfl ?_
  refine vl_v (q_loadsAt 5 Try.underlying23 rfl rfl rfl sz23 q2 lpc) rfl ?_
  refine vl_v (q_fldA fo27_2 (by decide) rfl rfl) rfl ?_
  first | (refine l_storeA 1 rfl rfl rfl sz23 (by first | with_reducible assumption | omega | exact lz | (rw [f0]; omega) | (rw [f2]; omega)) (by first | (with_reducible first | exact bys_one _ | exact u32s_one _ | exact u64s_one _ | exact i64s_one _ | exact n64s_one _ | assumption) | exact bys_one _ | exact u32s_one _ | exact u64s_one _ | exact i64s_one _ | exact one_all rfl | (refine app_one ?_ ?_ <;> first | exact bys_one _ | exact one_all rfl | (simp; done))) (by first | with_reducible assumption | omega | exact lz | (rw [f0]; omega) | (rw [f2]; omega)) ?_) | (refine l_storeG 1 rfl rfl rfl sz23 (by first | with_reducible assumption | omega | exact lz | (rw [f0]; omega) | (rw [f2]; omega)) (by first | (with_reducible first | exact bys_one _ | exact u32s_one _ | exact u64s_one _ | exact i64s_one _ | exact n64s_one _ | assumption) | exact bys_one _ | exact u32s_one _ | exact u64s_one _ | exact i64s_one _ | exact one_all rfl | (refine app_one ?_ ?_ <;> first | exact bys_one _ | exact one_all rfl | (simp; done))) (by first | with_reducible assumption | omega | exact lz | (rw [f0]; omega) | (rw [f2]; omega)) ?_)
  simp only [List.set_cons_zero, List.set_cons_succ]
  refine vl_nil ?_
  refine (th_n ?_)
  rw [e2]
  refine VC_region ?_
  refine vl_v (q_fldA fo27_3 (by decide) rfl rfl) rfl ?_
  refine l_store1 1 rfl rfl rfl sz4 rfl (by first | decide | (simp; done) | first | with_reducible assumption | omega | exact lz | (rw [f0]; omega) | (rw [f2]; omega)) ?_
  simp only [List.set_cons_zero, List.set_cons_succ]
  refine vl_nil ?_
  refine (th_n ?_)
  refine VC_seq ?_
  rw [e3]
  refine VC_region ?_
  refine vl_v (q_loads 5 Try.underlying34 rfl rfl rfl sz34 h0) rfl ?_
  first | (refine vl_v (q_loads 4 Try.underlying23 rfl rfl rfl sz23 (by first | with_reducible assumption | omega | exact lz | (rw [f0]; omega) | (rw [f2]; omega))) rfl ?_) | (refine vl_v (q_loadsAt 4 Try.underlying23 rfl rfl rfl sz23 (by rfl) (by first | with_reducible assumption | omega | exact lz | (rw [f0]; omega) | (rw [f2]; omega))) rfl ?_)
  first | (refine vl_v (q_loads 3 Try.underlying23 rfl rfl rfl sz23 (by first | with_reducible assumption | omega | exact lz | (rw [f0]; omega) | (rw [f2]; omega))) rfl ?_) | (refine vl_v (q_loadsAt 3 Try.underlying23 rfl rfl rfl sz23 (by rfl) (by first | with_reducible assumption | omega | exact lz | (rw [f0]; omega) | (rw [f2]; omega))) rfl ?_)
  refine vl_v (q_callV Try.func10 rfl rfl rfl (fun w1 H1 => hN w1)) rfl ?_
  refine vl_v (q_move rfl) rfl ?_
  refine vl_v (q_ext rfl rfl) rfl ?_
  refine vl_v (q_ext rfl rfl) rfl ?_
  refine l_allocA zr23 rfl ?_
  intro b10
  first | (refine l_storeA 0 rfl rfl rfl sz23 (by first | with_reducible assumption | omega | exact lz | (rw [f0]; omega) | (rw [f2]; omega)) (by first | (with_reducible first | exact bys_one _ | exact u32s_one _ | exact u64s_one _ | exact i64s_one _ | exact n64s_one _ | assumption) | exact bys_one _ | exact u32s_one _ | exact u64s_one _ | exact i64s_one _ | exact one_all rfl | (refine app_one ?_ ?_ <;> first | exact bys_one _ | exact one_all rfl | (simp; done))) (by first | with_reducible assumption | omega | exact lz | (rw [f0]; omega) | (rw [f2]; omega)) ?_) | (refine l_storeG 0 rfl rfl rfl sz23 (by first | with_reducible assumption | omega | exact lz | (rw [f0]; omega) | (rw [f2]; omega)) (by first | (with_reducible first | exact bys_one _ | exact u32s_one _ | exact u64s_one _ | exact i64s_one _ | exact n64s_one _ | assumption) | exact bys_one _ | exact u32s_one _ | exact u64s_one _ | exact i64s_one _ | exact one_all rfl | (refine app_one ?_ ?_ <;> first | exact bys_one _ | exact one_all rfl | (simp; done))) (by first | with_reducible assumption | omega | exact lz | (rw [f0]; omega) | (rw [f2]; omega)) ?_)
  simp only [List.set_cons_zero, List.set_cons_succ]
  refine vl_v (q_assign rfl) rfl ?_
  refine vl_nil ?_
  refine (th_n ?_)
  refine VC_seq ?_
  refine VC_region ?_
  refine vl_v (q_move rfl) rfl ?_
  refine vl_v (q_callV Try.func11 rfl rfl rfl (fun w1 H1 => hof _ _ _ (by omega) (by omega) w1 (by have := Reads.row 3 rfl w1 H1; simpa only [bys_append, List.append_assoc] using this))) rfl ?_
  refine vl_v (q_move rfl) rfl ?_
  refine vl_v (q_ext rfl rfl) rfl ?_
  refine vl_v (q_ext rfl rfl) rfl ?_
  refine l_allocA zr23 rfl ?_
  intro b12
  first | (refine l_storeA 0 rfl rfl rfl sz23 (by first | with_reducible assumption | omega | exact lz | (rw [f0]; omega) | (rw [f2]; omega)) (by first | (with_reducible first | exact bys_one _ | exact u32s_one _ | exact u64s_one _ | exact i64s_one _ | exact n64s_one _ | assumption) | exact bys_one _ | exact u32s_one _ | exact u64s_one _ | exact i64s_one _ | exact one_all rfl | (refine app_one ?_ ?_ <;> first | exact bys_one _ | exact one_all rfl | (simp; done))) (by first | with_reducible assumption | omega | exact lz | (rw [f0]; omega) | (rw [f2]; omega)) ?_) | (refine l_storeG 0 rfl rfl rfl sz23 (by first | with_reducible assumption | omega | exact lz | (rw [f0]; omega) | (rw [f2]; omega)) (by first | (with_reducible first | exact bys_one _ | exact u32s_one _ | exact u64s_one _ | exact i64s_one _ | exact n64s_one _ | assumption) | exact bys_one _ | exact u32s_one _ | exact u64s_one _ | exact i64s_one _ | exact one_all rfl | (refine app_one ?_ ?_ <;> first | exact bys_one _ | exact one_all rfl | (simp; done))) (by first | with_reducible assumption | omega | exact lz | (rw [f0]; omega) | (rw [f2]; omega)) ?_)
  simp only [List.set_cons_zero, List.set_cons_succ]
  refine vl_v (q_assign rfl) rfl ?_
  refine vl_nil ?_
  refine (th_n ?_)
  refine VC_seq ?_
  refine VC_drawV 15 [[], [0], [1], [1], [2, 3, 1], [1, 4], [5, 1], [6], [6], [7, 8, 6], [6, 9], [10, 6], [11], [12, 11], [11], [13, 14, 11], [11, 15], [16, 13, 0, 1, 2, 3, 4, 5, 6, 7, 8, 9, 10, 11, 12, 14, 15]] [[], [0], [0, 1], [0, 1], [0, 1, 2, 3], [0, 1, 2, 3, 4], [0, 1, 2, 3, 4, 5], [0, 1, 2, 3, 4, 5, 6], [0, 1, 2, 3, 4, 5, 6], [0, 1, 2, 3, 4, 5, 6, 7, 8], [0, 1, 2, 3, 4, 5, 6, 7, 8, 9], [0, 1, 2, 3, 4, 5, 6, 7, 8, 9, 10], [0, 1, 2, 3, 4, 5, 6, 7, 8, 9, 10, 11], [0, 1, 2, 3, 4, 5, 6, 7, 8, 9, 10, 11, 12], [0, 1, 2, 3, 4, 5, 6, 7, 8, 9, 10, 11], [0, 1, 2, 3, 4, 5, 6, 7, 8, 9, 10, 11, 12, 13, 14], [0, 1, 2, 3, 4, 5, 6, 7, 8, 9, 10, 11, 12, 13, 14, 15], [0, 1, 2, 3, 4, 5, 6, 7, 8, 9, 10, 11, 12, 13, 14, 15, 16]] rfl (by kernel_rfl) ?_
  refine qv_v (q_move rfl) ?_
  refine qv_v (q_move rfl) ?_
  first | (refine qv_vg (rfl) (q_loads 1 Try.underlying23 rfl rfl rfl sz23 (by first | with_reducible assumption | omega | exact lz | (rw [f0]; omega) | (rw [f2]; omega))) ?_) | (refine qv_vg (rfl) (q_loadsAt 1 Try.underlying23 rfl rfl rfl sz23 (by rfl) (by first | with_reducible assumption | omega | exact lz | (rw [f0]; omega) | (rw [f2]; omega))) ?_)
  first | (refine qv_vg (rfl) (q_loads 0 Try.underlying23 rfl rfl rfl sz23 (by first | with_reducible assumption | omega | exact lz | (rw [f0]; omega) | (rw [f2]; omega))) ?_) | (refine qv_vg (rfl) (q_loadsAt 0 Try.underlying23 rfl rfl rfl sz23 (by rfl) (by first | with_reducible assumption | omega | exact lz | (rw [f0]; omega) | (rw [f2]; omega))) ?_)
  refine qv_vg (rfl) (q_eqT flat32 rfl rfl (fits_bys' lk) rfl) ?_
  first | (refine qv_v (q_pickT rfl rfl) ?_) | (refine qv_v (q_pickF rfl rfl) ?_)
  refine qv_v (q_move rfl) ?_
  refine qv_vg (rfl) (q_move rfl) ?_
  refine qv_vg (rfl) (q_move rfl) ?_
  refine qv_vg (rfl) (q_true (q_eql_n Try.underlying29 rfl rfl) (decide_eq_true rfl)) ?_
  first | (refine qv_v (q_pickT rfl rfl) ?_) | (refine qv_v (q_pickF rfl rfl) ?_)
  refine qv_v (q_move rfl) ?_
  refine qv_vg (rfl) (q_loads 7 Try.underlying34 rfl rfl rfl sz34 h0) ?_
  refine qv_vg (rfl) (q_callV Try.func12 rfl rfl rfl (fun w1 H1 => hU w1)) ?_
  refine qv_vg (rfl) (q_loads 3 Try.underlying27 rfl rfl rfl sz27 f1) ?_
  refine qv_end ?_
  refine VL.keep (Sub.cons (s := 0) rfl (Sub.cons (s := 1) rfl (Sub.cons (s := 2) rfl (Sub.cons (s := 3) rfl (Sub.cons (s := 4) rfl (Sub.cons (s := 5) rfl (Sub.cons (s := 6) rfl (Sub.cons (s := 7) rfl (Sub.cons (s := 8) rfl (Sub.cons (s := 9) rfl (Sub.cons (s := 36) rfl (Sub.cons (s := 10) rfl (Sub.cons (s := 11) rfl (Sub.cons (s := 12) rfl (Sub.cons (s := 13) rfl (Sub.cons (s := 72) rfl (Sub.cons (s := 74) rfl (Sub.cons (s := 75) rfl (Sub.nil _))))))))))))))))))) ?_
  refine vl_vg rfl (q_bundle li' ls' lc' rfl rfl) rfl ?_
  first | (refine vl_v (q_pickT rfl rfl) rfl ?_) | (refine vl_v (q_pickF rfl rfl) rfl ?_)
  refine vl_v (q_assign rfl) rfl ?_
  refine vl_nil ?_
  refine (qn_n (th_n ?_))
  refine VC_ret ?_
  refine ⟨_, res1 rfl rfl, ?_⟩
  exact rfl
set_option maxHeartbeats 4000000 in
theorem answers_false (id fr i s c : List UInt8) (hid : id.length = 32) (hfr : fr.length = 32) (hi : i.length = 64) (hs : s.length = 64) (hc : c.length = 64) (w : World) :
    Calls Try.prog 4 #[.agg (c3 i s c false).toArray, .agg (bys id).toArray, .agg (bys fr).toArray] w fun e w' => e = .returned (.bool true) ∧ Kept [] w w' := by
  have hN := fun w => aanswer_false_calls id fr i s c hid hfr hi hs hc w
  have hok : ∀ x ∈ [(s, id), (i, fr), (s, fr)], okI x := by
    intro x hx
    simp only [List.mem_cons, List.not_mem_nil, or_false] at hx
    rcases hx with rfl | rfl | rfl
    · exact ⟨hs, hid⟩
    · exact ⟨hi, hfr⟩
    · exact ⟨hs, hfr⟩

  have hrows : rowsL [(s, id), (i, fr), (s, fr)] = bys (s ++ id) ++ (bys (i ++ fr) ++ bys (s ++ fr)) := by
    unfold rowsL
    simp only [List.map_cons, List.map_nil, List.flatten_cons, List.flatten_nil, List.append_nil]
  have hlen : List.length [(s, id), (i, fr), (s, fr)] = 3 := by simp
  have hof := fun A n k hn h w hA => rkof_calls [(s, id), (i, fr), (s, fr)] A n k hn hok h w hA
  rw [hrows, hlen] at hof
  have hU := fun w => bundle_false_calls i s c hi hs hc w
  rw [bnd_false] at hU
  have lk := agK_length [(s, id), (i, fr), (s, fr)]
  obtain ⟨k, ek⟩ : ∃ k, agK [(s, id), (i, fr), (s, fr)] = k := ⟨_, rfl⟩
  obtain ⟨b, eb⟩ : ∃ b, badL [(s, id), (i, fr), (s, fr)] = b := ⟨_, rfl⟩
  rw [ek, eb] at hN hof
  rw [ek] at lk
  clear ek eb hok hrows hlen
  have li' := pubK_length hi
  have ls' := pubK_length hs
  have lc' := pubK_length hc
  have hz : k32.length = 32 := by simp
  obtain ⟨h0, p0, p1, p2, p3⟩ := c3_f (n := 64) (h := false) hi hs hc
  have q0 : ((c3 i s c false).drop 32).take 32 = bys (pubK i) := part_sub (k := 32) (m := 32) p0 (by omega)
  have q1 : ((c3 i s c false).drop 96).take 32 = bys (pubK s) := part_sub (k := 32) (m := 32) p1 (by omega)
  have q2 : ((c3 i s c false).drop 160).take 32 = bys (pubK c) := part_sub (k := 32) (m := 32) p2 (by omega)
  have hbu := bundle_built2 li' ls'
  obtain ⟨pi, epi⟩ : ∃ l, pubK i = l := ⟨_, rfl⟩
  obtain ⟨ps, eps⟩ : ∃ l, pubK s = l := ⟨_, rfl⟩
  obtain ⟨pc, epc⟩ : ∃ l, pubK c = l := ⟨_, rfl⟩
  rw [epi] at li' q0 hbu hU
  rw [eps] at ls' q1 hbu hU
  rw [epc] at lc' q2
  clear epi eps epc
  have f0 := (c3_f (h := false) li' ls' hz).len
  have g0 := c3_one pi ps k32 false
  have e2 := c3_set2 (h := false) li' ls' hz lc'
  have e3 := c3_setB (h := false) (h' := true) li' ls' lc' (j := 96) (by omega)
  have f1 := (c3_f (h := false) li' ls' hz).len
  have f2 := (c3_f (h := false) li' ls' lc').len
  obtain ⟨ow, how⟩ : ∃ l, c3 i s c false = l := ⟨_, rfl⟩
  rw [how] at h0 p0 p1 p2 p3 q0 q1 q2 hN hU ⊢
  obtain ⟨r1, e1⟩ : ∃ r, s ++ id = r := ⟨_, rfl⟩
  obtain ⟨r2, e2'⟩ : ∃ r, i ++ fr = r := ⟨_, rfl⟩
  obtain ⟨r3, e3'⟩ : ∃ r, s ++ fr = r := ⟨_, rfl⟩
  obtain ⟨r4, e4⟩ : ∃ r, c ++ fr = r := ⟨_, rfl⟩
  rw [e1, e2', e3'] at hof
  have m1 : (bys r1).length = 96 := by rw [bys_length, ← e1, List.length_append]; omega
  have m2 : (bys r2).length = 96 := by rw [bys_length, ← e2', List.length_append]; omega
  have m3 : (bys r3).length = 96 := by rw [bys_length, ← e3', List.length_append]; omega
  have m4 : (bys r4).length = 96 := by rw [bys_length, ← e4, List.length_append]; omega
  have lid : (bys id).length = 32 := by rw [bys_length]; exact hid
  have lfr : (bys fr).length = 32 := by rw [bys_length]; exact hfr
  have li : (bys i).length = 64 := by rw [bys_length]; exact hi
  have ls : (bys s).length = 64 := by rw [bys_length]; exact hs
  have lc : (bys c).length = 64 := by rw [bys_length]; exact hc
  have lpi : (bys pi).length = 32 := by rw [bys_length]; exact li'
  have lps : (bys ps).length = 32 := by rw [bys_length]; exact ls'
  have lpc : (bys pc).length = 32 := by rw [bys_length]; exact lc'
  have bk : (bys k).length = 32 := by rw [bys_length]; exact lk
  have lz : (bys (List.replicate 32 0)).length = 32 := by rw [bys_length, List.length_replicate]
  have ezb : (bys (List.replicate 32 0) ++ bys (List.replicate 32 0) ++ bys (List.replicate 32 0) ++ [Value.bool false]).length = 97 := by kernel_rfl
  refine enter (n := 78) (R := fun e L => e = .returned (.bool true)) [.agg ow.toArray, .agg (bys id).toArray, .agg (bys fr).toArray] Try.func4 rfl rfl rfl (St.refl w) ?_ (fun e w' L' h H => ⟨h, H.kept⟩)
  refine VC_seq ?_
  refine VC_region ?_
  refine l_boxA rfl rfl ?_
  intro b3
  refine l_boxA rfl rfl ?_
  intro b4
  refine l_boxA rfl rfl ?_
  intro b5
  refine vl_v (q_assign rfl) rfl ?_
  refine vl_nil ?_
  refine (th_n ?_)
  refine VC_seq ?_
  refine VC_region ?_
  refine vl_v (q_callV Try.func7 rfl rfl rfl (fun w1 H1 => awake9_calls w1)) rfl ?_
  refine vl_v (q_assign rfl) rfl ?_
  refine vl_nil ?_
  refine (th_n ?_)
  refine VC_seq ?_
  refine VC_region ?_
  refine vl_v (q_fldA fo34_1 (by decide) rfl rfl) rfl ?_
  refine vl_v (q_loadsAt 2 Try.underlying25 rfl rfl rfl sz25 p1 ls) rfl ?_
  first | (refine vl_v (q_loads 1 Try.underlying23 rfl rfl rfl sz23 (by first | with_reducible assumption | omega | exact lz | (rw [f0]; omega) | (rw [f2]; omega))) rfl ?_) | (refine vl_v (q_loadsAt 1 Try.underlying23 rfl rfl rfl sz23 (by rfl) (by first | with_reducible assumption | omega | exact lz | (rw [f0]; omega) | (rw [f2]; omega))) rfl ?_)
  refine vl_v (q_buildS (tot := 96) (sizes := [64, 32]) (c' := bys r1) (by kernel_rfl) rfl rfl rfl rfl (by simp only [List.map_cons, List.map_nil, cellsL, Value.cells, ls, lid]) (row96_built hs hid e1)) rfl ?_
  refine vl_v (q_fldA fo34_0 (by decide) rfl rfl) rfl ?_
  refine vl_v (q_loadsAt 2 Try.underlying25 rfl rfl rfl sz25 p0 li) rfl ?_
  first | (refine vl_v (q_loads 0 Try.underlying23 rfl rfl rfl sz23 (by first | with_reducible assumption | omega | exact lz | (rw [f0]; omega) | (rw [f2]; omega))) rfl ?_) | (refine vl_v (q_loadsAt 0 Try.underlying23 rfl rfl rfl sz23 (by rfl) (by first | with_reducible assumption | omega | exact lz | (rw [f0]; omega) | (rw [f2]; omega))) rfl ?_)
  refine vl_v (q_buildS (tot := 96) (sizes := [64, 32]) (c' := bys r2) (by kernel_rfl) rfl rfl rfl rfl (by simp only [List.map_cons, List.map_nil, cellsL, Value.cells, li, lfr]) (row96_built hi hfr e2')) rfl ?_
  refine vl_v (q_fldA fo34_1 (by decide) rfl rfl) rfl ?_
  refine vl_v (q_loadsAt 2 Try.underlying25 rfl rfl rfl sz25 p1 ls) rfl ?_
  first | (refine vl_v (q_loads 0 Try.underlying23 rfl rfl rfl sz23 (by first | with_reducible assumption | omega | exact lz | (rw [f0]; omega) | (rw [f2]; omega))) rfl ?_) | (refine vl_v (q_loadsAt 0 Try.underlying23 rfl rfl rfl sz23 (by rfl) (by first | with_reducible assumption | omega | exact lz | (rw [f0]; omega) | (rw [f2]; omega))) rfl ?_)
  refine vl_v (q_buildS (tot := 96) (sizes := [64, 32]) (c' := bys r3) (by kernel_rfl) rfl rfl rfl rfl (by simp only [List.map_cons, List.map_nil, cellsL, Value.cells, ls, lfr]) (row96_built hs hfr e3')) rfl ?_
  refine l_litG [bys r1, bys r2, bys r3] Try.underlying37 in36 (by decide) (by decide) rfl rfl rfl (by intro v hv; simp only [List.mem_cons, List.not_mem_nil, or_false] at hv; rcases hv with rfl | rfl | rfl <;> assumption) rfl ?_
  intro b27
  simp only [List.flatten_cons, List.flatten_nil, List.append_nil]
  refine vl_v (q_assign rfl) rfl ?_
  refine vl_nil ?_
  refine (th_n ?_)
  refine VC_seq ?_
  refine VC_region ?_
  refine vl_v (q_fldA fo34_0 (by decide) rfl rfl) rfl ?_
  refine vl_v (q_fldA fo25_1 (by decide) rfl rfl) rfl ?_
  refine vl_v (q_loadsAt 3 Try.underlying23 rfl rfl rfl sz23 q0 lpi) rfl ?_
  refine vl_v (q_fldA fo34_1 (by decide) rfl rfl) rfl ?_
  refine vl_v (q_fldA fo25_1 (by decide) rfl rfl) rfl ?_
  refine vl_v (q_loadsAt 3 Try.underlying23 rfl rfl rfl sz23 q1 lps) rfl ?_
  refine vl_v (q_build (c' := c3 pi ps k32 false) rfl hbu) rfl ?_
  refine l_allocA zr27 rfl ?_
  intro b9
  refine l_storeA 0 rfl rfl rfl sz27 f0 g0 ezb ?_
  simp only [List.set_cons_zero, List.set_cons_succ]
  refine vl_nil ?_
  refine (th_n ?_)
  refine VC_seq ?_
  refine VC_seq ?_
  refine VC_region ?_
  refine vl_v (q_fldA fo34_3 (by decide) rfl rfl) rfl ?_
  refine vl_v (q_load 4 Try.underlying4 rfl rfl rfl p3) rfl ?_
  refine vl_nil ?_
  refine (th_n ?_)
  refine VC_no (rfl) ?_
  refine VC_skip ?_
  refine (th_n ?_)
  refine VC_seq ?_
  refine VC_region ?_
  refine vl_v (q_loads 4 Try.underlying34 rfl rfl rfl sz34 h0) rfl ?_
  first | (refine vl_v (q_loads 3 Try.underlying23 rfl rfl rfl sz23 (by first | with_reducible assumption | omega | exact lz | (rw [f0]; omega) | (rw [f2]; omega))) rfl ?_) | (refine vl_v (q_loadsAt 3 Try.underlying23 rfl rfl rfl sz23 (by rfl) (by first | with_reducible assumption | omega | exact lz | (rw [f0]; omega) | (rw [f2]; omega))) rfl ?_)
  first | (refine vl_v (q_loads 2 Try.underlying23 rfl rfl rfl sz23 (by first | with_reducible assumption | omega | exact lz | (rw [f0]; omega) | (rw [f2]; omega))) rfl ?_) | (refine vl_v (q_loadsAt 2 Try.underlying23 rfl rfl rfl sz23 (by rfl) (by first | with_reducible assumption | omega | exact lz | (rw [f0]; omega) | (rw [f2]; omega))) rfl ?_)
  refine vl_v (q_callV Try.func10 rfl rfl rfl (fun w1 H1 => hN w1)) rfl ?_
  refine vl_v (q_move rfl) rfl ?_
  refine vl_v (q_ext rfl rfl) rfl ?_
  refine vl_v (q_ext rfl rfl) rfl ?_
  refine l_allocA zr23 rfl ?_
  intro b10
  first | (refine l_storeA 0 rfl rfl rfl sz23 (by first | with_reducible assumption | omega | exact lz | (rw [f0]; omega) | (rw [f2]; omega)) (by first | (with_reducible first | exact bys_one _ | exact u32s_one _ | exact u64s_one _ | exact i64s_one _ | exact n64s_one _ | assumption) | exact bys_one _ | exact u32s_one _ | exact u64s_one _ | exact i64s_one _ | exact one_all rfl | (refine app_one ?_ ?_ <;> first | exact bys_one _ | exact one_all rfl | (simp; done))) (by first | with_reducible assumption | omega | exact lz | (rw [f0]; omega) | (rw [f2]; omega)) ?_) | (refine l_storeG 0 rfl rfl rfl sz23 (by first | with_reducible assumption | omega | exact lz | (rw [f0]; omega) | (rw [f2]; omega)) (by first | (with_reducible first | exact bys_one _ | exact u32s_one _ | exact u64s_one _ | exact i64s_one _ | exact n64s_one _ | assumption) | exact bys_one _ | exact u32s_one _ | exact u64s_one _ | exact i64s_one _ | exact one_all rfl | (refine app_one ?_ ?_ <;> first | exact bys_one _ | exact one_all rfl | (simp; done))) (by first | with_reducible assumption | omega | exact lz | (rw [f0]; omega) | (rw [f2]; omega)) ?_)
  simp only [List.set_cons_zero, List.set_cons_succ]
  refine vl_v (q_assign rfl) rfl ?_
  refine vl_nil ?_
  refine (th_n ?_)
  refine VC_seq ?_
  refine VC_region ?_
  refine vl_v (q_move rfl) rfl ?_
  refine vl_v (q_callV Try.func11 rfl rfl rfl (fun w1 H1 => hof _ _ _ (by omega) (by omega) w1 (Reads.row 2 rfl w1 H1))) rfl ?_
  refine vl_v (q_move rfl) rfl ?_
  refine vl_v (q_ext rfl rfl) rfl ?_
  refine vl_v (q_ext rfl rfl) rfl ?_
  refine l_allocA zr23 rfl ?_
  intro b12
  first | (refine l_storeA 0 rfl rfl rfl sz23 (by first | with_reducible assumption | omega | exact lz | (rw [f0]; omega) | (rw [f2]; omega)) (by first | (with_reducible first | exact bys_one _ | exact u32s_one _ | exact u64s_one _ | exact i64s_one _ | exact n64s_one _ | assumption) | exact bys_one _ | exact u32s_one _ | exact u64s_one _ | exact i64s_one _ | exact one_all rfl | (refine app_one ?_ ?_ <;> first | exact bys_one _ | exact one_all rfl | (simp; done))) (by first | with_reducible assumption | omega | exact lz | (rw [f0]; omega) | (rw [f2]; omega)) ?_) | (refine l_storeG 0 rfl rfl rfl sz23 (by first | with_reducible assumption | omega | exact lz | (rw [f0]; omega) | (rw [f2]; omega)) (by first | (with_reducible first | exact bys_one _ | exact u32s_one _ | exact u64s_one _ | exact i64s_one _ | exact n64s_one _ | assumption) | exact bys_one _ | exact u32s_one _ | exact u64s_one _ | exact i64s_one _ | exact one_all rfl | (refine app_one ?_ ?_ <;> first | exact bys_one _ | exact one_all rfl | (simp; done))) (by first | with_reducible assumption | omega | exact lz | (rw [f0]; omega) | (rw [f2]; omega)) ?_)
  simp only [List.set_cons_zero, List.set_cons_succ]
  refine vl_v (q_assign rfl) rfl ?_
  refine vl_nil ?_
  refine (th_n ?_)
  refine VC_seq ?_
  refine VC_drawV 15 [[], [0], [1], [1], [2, 3, 1], [1, 4], [5, 1], [6], [6], [7, 8, 6], [6, 9], [10, 6], [11], [12, 11], [11], [13, 14, 11], [11, 15], [16, 13, 0, 1, 2, 3, 4, 5, 6, 7, 8, 9, 10, 11, 12, 14, 15]] [[], [0], [0, 1], [0, 1], [0, 1, 2, 3], [0, 1, 2, 3, 4], [0, 1, 2, 3, 4, 5], [0, 1, 2, 3, 4, 5, 6], [0, 1, 2, 3, 4, 5, 6], [0, 1, 2, 3, 4, 5, 6, 7, 8], [0, 1, 2, 3, 4, 5, 6, 7, 8, 9], [0, 1, 2, 3, 4, 5, 6, 7, 8, 9, 10], [0, 1, 2, 3, 4, 5, 6, 7, 8, 9, 10, 11], [0, 1, 2, 3, 4, 5, 6, 7, 8, 9, 10, 11, 12], [0, 1, 2, 3, 4, 5, 6, 7, 8, 9, 10, 11], [0, 1, 2, 3, 4, 5, 6, 7, 8, 9, 10, 11, 12, 13, 14], [0, 1, 2, 3, 4, 5, 6, 7, 8, 9, 10, 11, 12, 13, 14, 15], [0, 1, 2, 3, 4, 5, 6, 7, 8, 9, 10, 11, 12, 13, 14, 15, 16]] rfl (by kernel_rfl) ?_
  refine qv_v (q_move rfl) ?_
  refine qv_v (q_move rfl) ?_
  first | (refine qv_vg (rfl) (q_loads 1 Try.underlying23 rfl rfl rfl sz23 (by first | with_reducible assumption | omega | exact lz | (rw [f0]; omega) | (rw [f2]; omega))) ?_) | (refine qv_vg (rfl) (q_loadsAt 1 Try.underlying23 rfl rfl rfl sz23 (by rfl) (by first | with_reducible assumption | omega | exact lz | (rw [f0]; omega) | (rw [f2]; omega))) ?_)
  first | (refine qv_vg (rfl) (q_loads 0 Try.underlying23 rfl rfl rfl sz23 (by first | with_reducible assumption | omega | exact lz | (rw [f0]; omega) | (rw [f2]; omega))) ?_) | (refine qv_vg (rfl) (q_loadsAt 0 Try.underlying23 rfl rfl rfl sz23 (by rfl) (by first | with_reducible assumption | omega | exact lz | (rw [f0]; omega) | (rw [f2]; omega))) ?_)
  refine qv_vg (rfl) (q_eqT flat32 rfl rfl (fits_bys' lk) rfl) ?_
  first | (refine qv_v (q_pickT rfl rfl) ?_) | (refine qv_v (q_pickF rfl rfl) ?_)
  refine qv_v (q_move rfl) ?_
  refine qv_vg (rfl) (q_move rfl) ?_
  refine qv_vg (rfl) (q_move rfl) ?_
  refine qv_vg (rfl) (q_true (q_eql_n Try.underlying29 rfl rfl) (decide_eq_true rfl)) ?_
  first | (refine qv_v (q_pickT rfl rfl) ?_) | (refine qv_v (q_pickF rfl rfl) ?_)
  refine qv_v (q_move rfl) ?_
  refine qv_vg (rfl) (q_loads 6 Try.underlying34 rfl rfl rfl sz34 h0) ?_
  refine qv_vg (rfl) (q_callV Try.func12 rfl rfl rfl (fun w1 H1 => hU w1)) ?_
  refine qv_vg (rfl) (q_loads 2 Try.underlying27 rfl rfl rfl sz27 f1) ?_
  refine qv_end ?_
  refine VL.keep (Sub.cons (s := 0) rfl (Sub.cons (s := 1) rfl (Sub.cons (s := 2) rfl (Sub.cons (s := 3) rfl (Sub.cons (s := 4) rfl (Sub.cons (s := 5) rfl (Sub.cons (s := 6) rfl (Sub.cons (s := 7) rfl (Sub.cons (s := 8) rfl (Sub.cons (s := 9) rfl (Sub.cons (s := 36) rfl (Sub.cons (s := 10) rfl (Sub.cons (s := 11) rfl (Sub.cons (s := 12) rfl (Sub.cons (s := 13) rfl (Sub.cons (s := 72) rfl (Sub.cons (s := 74) rfl (Sub.cons (s := 75) rfl (Sub.nil _))))))))))))))))))) ?_
  refine vl_vg rfl (q_bundle li' ls' hz rfl rfl) rfl ?_
  first | (refine vl_v (q_pickT rfl rfl) rfl ?_) | (refine vl_v (q_pickF rfl rfl) rfl ?_)
  refine vl_v (q_assign rfl) rfl ?_
  refine vl_nil ?_
  refine (qn_n (th_n ?_))
  refine VC_ret ?_
  refine ⟨_, res1 rfl rfl, ?_⟩
  exact rfl
theorem agreeAnswers.walk (w : World) (v0 : Value) (x : D3) (h0 : C3V 64 v0 x) (v1 : Value) (id : List UInt8) (h1 : KeyV v1 id) (v2 : Value) (fr : List UInt8) (h2 : KeyV v2 fr) :
    Calls Try.prog 4 #[v0, v1, v2] w fun e w' => e = .returned (.bool true) ∧ Kept [] w w' := by
  obtain ⟨rfl, hi, hs, hc⟩ := h0
  obtain ⟨rfl, hid⟩ := h1
  obtain ⟨rfl, hfr⟩ := h2
  obtain ⟨i, s, c, h⟩ := x
  cases h with
  | true => exact answers_true id fr i s c hid hfr hi hs hc w
  | false => exact answers_false id fr i s c hid hfr hi hs hc w

namespace agreeAnswers
open Go.ChangeShapes Go.WideShapes Go.ChangeAt Go.RowKit
theorem own : ownKnob Try.prog.godebug = none := by kernel_rfl
theorem laidOut : laidOutB Try.prog = true := by kernel_rfl
set_option maxRecDepth 100000 in
theorem lifted (os : Os) (started : os.Started) (H : Type) (enc : TypeId × Value → H) :
    ReturnsInHanded {} Try.checked os 4 .any (Rows.agreeAnswersSpec.pre6 enc Try.prog Try.f4 Rows.agreeAnswersRow.domain false) (Rows.agreeAnswersSpec.post enc Try.prog Try.f4 false true false false) := by
  refine returnsInHanded_of_change (C := Try.checked) own started (by kernel_rfl) Try.func4
    (ChangeSpec.witness6 (enc := enc) (C := Try.checked) false ⟨#[], #[(.agg (c3 (List.replicate 64 0) (List.replicate 64 0) (List.replicate 64 0) false).toArray), (.agg (List.replicate 32 (Value.int .u8 0)).toArray), (.agg (List.replicate 32 (Value.int .u8 0)).toArray)], []⟩ 8 (by kernel_rfl) (by kernel_rfl) (by kernel_rfl) (by kernel_rfl)) ?_
  intro W base args ds gs before hval0 hW hcnd _
  have hval : ∀ (j : Nat) t v, Try.f4.params[j]? = some t → args[j]? = some v → Value.okWide Try.prog W .any base t v := hval0
  have hW' := hW
  obtain ⟨p, q, hA0, hV, rfl, hfz, hnd⟩ := hW
  have hA : DataW.TrodAll enc Try.prog W 0 (fun _ => true) true Try.f4.params.toList args.toList ds p := hA0
  rw [Try.params4] at hA hval
  obtain ⟨v0, vs0, d0, ds0, p0, q0, hargs, rfl, rfl, h0, r0⟩ := trodAll_cons hA
  obtain ⟨v1, vs1, d1, ds1, p1, q1, rfl, rfl, rfl, h1, r1⟩ := trodAll_cons r0
  obtain ⟨v2, vs2, d2, ds2, p2, q2, rfl, rfl, rfl, h2, r2⟩ := trodAll_cons r1
  obtain ⟨rfl, rfl, rfl⟩ := trodAll_nil r2
  obtain rfl : args = #[v0, v1, v2] := by cases args; simp_all
  obtain ⟨rfl, rfl⟩ := trodVars_none hV
  have k0 := h0
  have lt0 : ∀ x ∈ p0, x.block < W.heap.size := by obtain ⟨m, hm⟩ := k0; exact DataW.trod_lt m _ _ _ hm
  have k1 := h1
  have lt1 : ∀ x ∈ p1, x.block < W.heap.size := by obtain ⟨m, hm⟩ := k1; exact DataW.trod_lt m _ _ _ hm
  have k2 := h2
  have lt2 : ∀ x ∈ p2, x.block < W.heap.size := by obtain ⟨m, hm⟩ := k2; exact DataW.trod_lt m _ _ _ hm
  obtain ⟨l0, g0⟩ := open_own (hval 0 34 v0 rfl rfl) h0
  obtain ⟨cs1, e1, f1⟩ := open_flat (ks := (List.replicate 32 .u8)) 6 (by kernel_rfl) (by kernel_rfl) (hval 1 23 v1 rfl rfl) h1
  subst e1
  obtain ⟨l1, g1⟩ := open_key f1
  obtain ⟨cs2, e2, f2⟩ := open_flat (ks := (List.replicate 32 .u8)) 6 (by kernel_rfl) (by kernel_rfl) (hval 2 23 v2 rfl rfl) h2
  subst e2
  obtain ⟨l2, g2⟩ := open_key f2
  clear hA0 hval0
  refine (agreeAnswers.walk W v0 l0 g0 _ l1 g1 _ l2 g2).mono fun e W' ⟨he, hK⟩ => ?_
  subst he
  have bel := hK.below
  exact ⟨_, rfl, _, _, _, [], _, [], hW', trodAll_mk1 (shut_bool Try.underlying4 _), (trodAll_cons_mk (Below.trod laidOut (by kernel_rfl) (of_decide_eq_true (by kernel_rfl)) k0 bel lt0) (trodAll_cons_mk (Below.trod laidOut (by kernel_rfl) (of_decide_eq_true (by kernel_rfl)) k1 bel lt1) (trodAll_cons_mk (Below.trod laidOut (by kernel_rfl) (of_decide_eq_true (by kernel_rfl)) k2 bel lt2) trodAll_mk0))), rfl, bel.frame _, fun h => by cases h⟩
theorem over : Rows.agreeAnswersRow.holds Try.pinned (OpenSpec.ofChange Rows.agreeAnswersSpec) :=
  OpenClaim.holds_of_wide 4 Try.f4 rfl rfl rfl rfl rfl rfl rfl ⟨rfl, rfl, rfl, rfl, rfl⟩ rfl rfl rfl rfl rfl (by kernel_rfl) Try.func4 (by kernel_rfl)
    (of_decide_eq_true (by kernel_rfl)) (by unfold Func.isWrapper; first | (rw [if_pos (by decide +kernel)]; kernel_rfl) | (rw [if_neg (by decide +kernel)]; exact ⟨rfl, rfl⟩))
    (fun os started H enc _ => lifted os started H enc)
theorem proved : Rows.AgreeAnswersSaid := over
end agreeAnswers
/-- The row. -/
theorem agreeAnswers_holds : Rows.AgreeAnswersSaid := agreeAnswers.proved
#print axioms agreeAnswers_holds
end Go.Proofs.Ytabmfndiepmcgaa
