/- Any envelopes put, and let go, against the document's box: the statement MailboxPlays. No condition. -/
import Derived.Test.YtadaihpeionniaaRows
import Derived.Test.YtadaihpeionniaaQ19pd
namespace Go.Proofs.Ytadaihpeionniaa
open Go.RowKit Go.PBYtadaihpeionniaa
set_option linter.unusedVariables false
set_option linter.unusedSimpArgs false
set_option maxRecDepth 10000

set_option maxHeartbeats 16000000 in
theorem mplays_all (w : World) (l : List OpM) (A : Option Addr) (c : Nat) (hc : l.length ≤ c) (hA : SlAt w A (opsM l)) (hlo : ∀ o ∈ l, o.ok w) :
    Calls Try.prog 3 #[.slice A l.length c] w fun e w' => e = .returned (.bool true) ∧ Kept [] w w' := by
  refine enter (n := 97) (R := fun e L => e = .returned (.bool true)) [.slice A l.length c] Try.func3 rfl rfl rfl (St.refl w) ?_ (fun e w' L' h H => ⟨h, H.kept⟩)
  refine VC_seq ?_
  refine VC_region ?_
  refine vl_v (q_assign rfl) rfl ?_
  refine vl_nil ?_
  refine (th_n ?_)
  refine VC_seq ?_
  refine VC_region ?_
  refine vl_v (q_callV Try.func7 rfl rfl rfl (fun w1 H1 => awake19_calls w1)) rfl ?_
  refine vl_v (q_assign rfl) rfl ?_
  refine vl_nil ?_
  refine (th_n ?_)
  refine VC_seq ?_
  refine VC_region ?_
  refine l_callG Try.func8 rfl rfl rfl (fun w1 H1 => new_calls w1) rfl ?_
  intro x15
  refine vl_v (q_assign rfl) rfl ?_
  refine vl_nil ?_
  refine (th_n ?_)
  refine VC_seq ?_
  refine VC_region ?_
  refine vl_v (q_build (c' := [.slice none 0 0, vN 0]) rfl (by kernel_rfl)) rfl ?_
  refine l_boxA rfl rfl ?_
  intro b17
  refine vl_v (q_assign rfl) rfl ?_
  refine vl_nil ?_
  refine (th_n ?_)
  refine VC_seq ?_
  refine VC_seq ?_
  refine VC_region ?_
  refine vl_v (q_move rfl) rfl ?_
  refine vl_v (q_eqPN Try.underlying24 rfl rfl) rfl ?_
  refine vl_nil ?_
  refine (th_n ?_)
  refine VC_no (rfl) ?_
  refine VC_skip ?_
  refine (th_n ?_)
  refine VC_seq ?_
  refine VC_seq ?_
  refine VC_region ?_
  refine vl_v (q_assign rfl) rfl ?_
  refine vl_nil ?_
  refine (th_n ?_)
  refine VC_block ?_
  refine VC_loop (ι := PSt) (fun x => x.ok l.length) (fun x => [(0, .slice A l.length c), (3, .bool true), (4, vP x15 0), (5, vP b17 0), (6, vN x.i)]) (fun x => RPS x15 b17 x) (fun x => l.length - x.i) ⟨0, 0, none, 0, [], none, 0, .row 62 138 (.slice none 0 0) 0 [], [], []⟩ (⟨Nat.zero_le _, Nat.le_refl _, rfl, by simp, by simp, fun w'' h'' => SlAt.nil w'' none, Nat.le_refl _, fun w h y hy => absurd hy (by simp), fun w h y hy => absurd hy (by simp)⟩) (Sub.cons (s := 0) rfl (Sub.cons (s := 3) rfl (Sub.cons (s := 4) rfl (Sub.cons (s := 5) rfl (Sub.cons (s := 6) rfl (Sub.nil _)))))) (fun w H => St.pick (H.addNil 62 138) (ks := [1, 2, 0, 3]) (by decide) rfl) ?_
  rintro ⟨i, many, AS, cS, ms, B, k, r, ns, G⟩ hp
  obtain ⟨hi, hmy, heq, hok, h8, hr, hk, hg1, hg2⟩ := hp
  dsimp only at hi hmy heq hok h8 hr hk hg1 hg2
  dsimp only
  simp only [RPS, BoxR, DocB, List.cons_append, List.nil_append, List.append_nil]
  refine VC_seq ?_
  refine VC_seq ?_
  refine VC_region ?_
  refine vl_v (q_move rfl) rfl ?_
  refine vl_v (q_move rfl) rfl ?_
  refine vl_v (q_lenS Try.underlying22 rfl) rfl ?_
  first | (refine vl_v (q_lss_n Try.underlying3 rfl rfl) rfl ?_) | (refine vl_v (q_lss_k Try.underlying3 rfl rfl) rfl ?_)
  by_cases hs23 : i < l.length
  · skip
    rw [show decide (i < l.length) = true from decide_eq_true hs23]
    refine vl_v (q_move rfl) rfl ?_
    refine vl_vg rfl (q_move rfl) rfl ?_
    refine vl_vg rfl (q_lss_n (q := 60) Try.underlying3 rfl rfl) rfl ?_
    first | (refine vl_v (q_pickT rfl rfl) rfl ?_) | (refine vl_v (q_pickF rfl rfl) rfl ?_)
    refine vl_nil ?_
    refine (th_n ?_)
    refine VC_cond rfl (fun ht27 => ?_) (fun ht27 => ?_)
    · skip
      have hil := hs23
      have ht27 := of_decide_eq_true ht27
      obtain ⟨q, hq⟩ : ∃ q, l[i]? = some q := ⟨_, List.getElem?_eq_getElem hil⟩
      have hqo := hlo q (List.mem_of_getElem? hq)
      have hpt := opsM_part hlo hq
      have hqf := opM_f hqo
      have lqc : q.cells.length = 139 := OpM.cells_length hqo
      have oqc := OpM.cells_one (o := q)
      refine VC_skip ?_
      refine (th_n ?_)
      refine VC_seq ?_
      refine VC_block ?_
      refine VC_seq ?_
      refine VC_region ?_
      refine vl_v (q_move rfl) rfl ?_
      refine vl_v (q_move rfl) rfl ?_
      refine vl_v (q_idxRdN (m := i) Try.underlying22 sz40 rfl rfl hil (Reads.old hA) (by rw [opsM_length hlo]; omega)) rfl ?_
      refine vl_v (q_loadsRd Try.underlying40 rfl sz40 rfl (Reads.old hA) hpt lqc (by omega)) rfl ?_
      refine l_allocA zr40 rfl ?_
      intro b7
      refine l_storeA 0 rfl rfl rfl sz40 (by first | omega | with_reducible assumption | (simp only [zb, zu, zw, zi, za]; omega) | (simp only [zs, zr, zm, za, zb, zu, zw, zi, zt, zd, zc, zn, *] <;> first | done | omega) | rfl) (by first | (with_reducible first | exact bys_one _ | exact u32s_one _ | exact u64s_one _ | exact i64s_one _ | exact n64s_one _ | assumption) | exact bys_one _ | exact u32s_one _ | exact u64s_one _ | exact i64s_one _ | exact one_all rfl | (refine app_one ?_ ?_ <;> first | exact bys_one _ | exact one_all rfl | (simp; done))) (by first | omega | with_reducible assumption | (simp only [zb, zu, zw, zi, za]; omega) | (simp only [zs, zr, zm, za, zb, zu, zw, zi, zt, zd, zc, zn, *] <;> first | done | omega) | rfl) ?_
      simp only [List.set_cons_zero, List.set_cons_succ]
      refine vl_nil ?_
      refine (th_n ?_)
      refine VC_seq ?_
      refine VC_seq ?_
      refine VC_region ?_
      refine vl_v (q_fldA fo40_2 (by decide) rfl rfl) rfl ?_
      refine vl_v (q_fldA fo36_4 (by decide) rfl rfl) rfl ?_
      refine vl_v (q_load 0 Try.underlying34 rfl rfl rfl hqf.g4) rfl ?_
      refine vl_v (q_lenS Try.underlying34 rfl) rfl ?_
      refine vl_v (q_gtr_n (q := 1000) Try.underlying3 rfl rfl) rfl ?_
      refine vl_nil ?_
      refine (th_n ?_)
      refine VC_cond rfl (fun ht38 => ?_) (fun ht38 => ?_)
      · skip
        have ht38 := of_decide_eq_true ht38
        refine VC_seq ?_
        refine VC_region ?_
        refine vl_v (q_move rfl) rfl ?_
        refine vl_v (q_assign rfl) rfl ?_
        refine vl_nil ?_
        refine (th_n ?_)
        refine VC_ret ?_
        refine (th_r (bl_r (th_r (th_r (bl_r (th_r ?_))))))
        refine ⟨_, res1 rfl rfl, ?_⟩
        exact rfl
      · skip
        have hb1 := of_decide_eq_false ht38
        have hle : (envOf q.X q.x).length = 69 := (envC_f hqo.cm hqo.pub).len
        have hls := stC_length hqo.s
        have hmok : ∀ y ∈ ms, y.1.ok := fun y hy => (hok y hy).1
        have hnok : ∀ y ∈ ns, y.1.ok := fun y hy => by
          have h1 : y.1 ∈ mids ms := heq ▸ List.mem_map.2 ⟨y, hy, rfl⟩
          obtain ⟨z, hz, e⟩ := List.mem_map.1 h1
          exact e ▸ hmok z hz
        have hnl : ns.length = ms.length := by rw [← mids_length ns, ← heq, mids_length]
        refine VC_skip ?_
        refine (th_n ?_)
        refine VC_seq ?_
        refine VC_region ?_
        refine vl_v (q_assign rfl) rfl ?_
        refine vl_nil ?_
        refine (th_n ?_)
        refine VC_seq ?_
        refine VC_seq ?_
        refine VC_region ?_
        refine vl_v (q_fldA fo40_0 (by decide) rfl rfl) rfl ?_
        refine vl_v (q_load 0 Try.underlying3 rfl rfl rfl hqf.g0) rfl ?_
        refine vl_v (q_eql_k (q := 0) Try.underlying3 rfl rfl) rfl ?_
        by_cases hs42 : q.d = 0
        · skip
          rw [show decide (q.d = 0) = true from decide_eq_true hs42]
          refine vl_v (q_move rfl) rfl ?_
          refine vl_skip rfl rfl ?_
          refine vl_skip rfl rfl ?_
          refine vl_skip rfl rfl ?_
          first | (refine vl_v (q_pickT rfl rfl) rfl ?_) | (refine vl_v (q_pickF rfl rfl) rfl ?_)
          refine vl_nil ?_
          refine (th_n ?_)
          refine VC_yes (rfl) ?_
          refine VC_seq ?_
          refine VC_region ?_
          obtain ⟨u, hu⟩ : ∃ u, putM (mids ms) many q.X q.s = u := ⟨_, rfl⟩
          have hPs := fun (R : List Res) w1 H1 => put_calls (w := w) (w1 := w1) (b := x15) (c := cS) (many := many) (A := AS) (ms := ms) (R := R) q.X q.s q.x.1 q.x.2 hqo.cm hqo.pub hqo.s hmok (by omega) (by omega) hqo.b H1
          have hPd := fun (R : List Res) w1 H1 => rput_calls (w := w) (w1 := w1) (br := b17) (k := k) (many := many) (B := B) (r := r) (ms := ns) (R := R) q.X q.s q.x.1 q.x.2 hqo.cm hqo.pub hqo.s hnok hr hk (by omega) (by omega) hqo.b H1
          rw [← heq] at hPd
          rw [hu] at hPs hPd
          refine vl_v (q_move rfl) rfl ?_
          refine vl_v (q_fldA fo40_2 (by decide) rfl rfl) rfl ?_
          refine vl_v (q_loadsAt 0 Try.underlying36 rfl rfl rfl sz36 hqf.g2 hle) rfl ?_
          refine vl_v (q_fldA fo40_3 (by decide) rfl rfl) rfl ?_
          refine vl_v (q_loadsAt 0 Try.underlying38 rfl rfl rfl sz38 hqf.g3 hls) rfl ?_
          refine l_call (F := fun v L' => ∃ A' c' ms' N, v = .tuple #[vN u.id, vN u.e] ∧ mids ms' = u.l ∧ Fresh N ms ms' ∧ L' = [.blk x15 57 [.slice A' ms'.length c', vN u.many], .row 52 138 (.slice A' ms'.length c') ms'.length (mailsC ms'), .blk b7 40 q.cells, .blk b17 29 [.slice B ns.length k, vN many], r] ++ (N ++ G)) Try.func9 rfl rfl rfl (fun w1 H1 => (hPs ([.blk b7 40 q.cells, .blk b17 29 [.slice B ns.length k, vN many], r] ++ G) w1 (St.pickR (M := BoxR x15 AS cS ms many ++ [.blk b7 40 q.cells, .blk b17 29 [.slice B ns.length k, vN many], r]) (R := G) 5 H1 (ks := [1, 2, 0, 3, 4]) (by decide) (by decide) rfl rfl)).mono fun e w' h => ?_) rfl ?_
          · obtain ⟨A', c', ms', N, h1, h2, h3, h4⟩ := h
            exact ⟨_, _, h1, ⟨A', c', ms', N, rfl, h2, h3, rfl⟩, h4.perm (mvN _ _ [.blk b7 40 q.cells, .blk b17 29 [.slice B ns.length k, vN many], r] _)⟩
          rintro v L' ⟨A1, c1, ms1, N1, rfl, hm1, hF1, rfl⟩
          simp only [List.cons_append, List.nil_append]
          refine vl_v (q_move rfl) rfl ?_
          refine vl_v (q_ext rfl rfl) rfl ?_
          refine vl_v (q_ext rfl rfl) rfl ?_
          refine vl_v (q_assign rfl) rfl ?_
          refine vl_v (q_assign rfl) rfl ?_
          refine vl_nil ?_
          refine (th_n ?_)
          refine VC_seq ?_
          refine VC_region ?_
          refine vl_v (q_move rfl) rfl ?_
          refine vl_v (q_fldA fo40_2 (by decide) rfl rfl) rfl ?_
          refine vl_v (q_loadsAt 2 Try.underlying36 rfl rfl rfl sz36 hqf.g2 hle) rfl ?_
          refine vl_v (q_fldA fo40_3 (by decide) rfl rfl) rfl ?_
          refine vl_v (q_loadsAt 2 Try.underlying38 rfl rfl rfl sz38 hqf.g3 hls) rfl ?_
          refine l_call (F := fun v L' => ∃ B' k' r' ns' N, v = .tuple #[vN u.id, vN u.e] ∧ mids ns' = u.l ∧ Fresh N ns ns' ∧ (∀ w'', r'.ok w'' → SlAt w'' B' (mailsC ns')) ∧ ns'.length ≤ k' ∧ L' = [.blk b17 29 [.slice B' ns'.length k', vN u.many], r', .blk b7 40 q.cells, .blk x15 57 [.slice A1 ms1.length c1, vN u.many], .row 52 138 (.slice A1 ms1.length c1) ms1.length (mailsC ms1)] ++ (N ++ (N1 ++ G))) Try.func10 rfl rfl rfl (fun w1 H1 => (hPd ([.blk b7 40 q.cells, .blk x15 57 [.slice A1 ms1.length c1, vN u.many], .row 52 138 (.slice A1 ms1.length c1) ms1.length (mailsC ms1)] ++ (N1 ++ G)) w1 (St.pickR (M := DocB b17 B k r ns many ++ [.blk b7 40 q.cells, .blk x15 57 [.slice A1 ms1.length c1, vN u.many], .row 52 138 (.slice A1 ms1.length c1) ms1.length (mailsC ms1)]) (R := N1 ++ G) 5 H1 (ks := [3, 4, 2, 0, 1]) (by decide) (by decide) rfl rfl)).mono fun e w' h => ?_) rfl ?_
          · obtain ⟨B', k', r', ns', N, h1, h2, h3, h4, h5, h6⟩ := h
            exact ⟨_, _, h1, ⟨B', k', r', ns', N, rfl, h2, h3, h4, h5, rfl⟩, h6.perm (mvN _ _ [.blk b7 40 q.cells, .blk x15 57 [.slice A1 ms1.length c1, vN u.many], .row 52 138 (.slice A1 ms1.length c1) ms1.length (mailsC ms1)] _)⟩
          rintro v L' ⟨B1, k1, r1, ns1, N2, rfl, hm2, hF2, hr1, hk1, rfl⟩
          simp only [List.cons_append, List.nil_append]
          refine vl_v (q_move rfl) rfl ?_
          refine vl_v (q_ext rfl rfl) rfl ?_
          refine vl_v (q_ext rfl rfl) rfl ?_
          refine vl_v (q_assign rfl) rfl ?_
          refine vl_v (q_assign rfl) rfl ?_
          refine vl_nil ?_
          refine (th_n ?_)
          refine VC_region ?_
          refine vl_v (q_move rfl) rfl ?_
          refine vl_v (q_move rfl) rfl ?_
          refine vl_v (q_true (q_eql_n Try.underlying3 rfl rfl) (decide_eq_true rfl)) rfl ?_
          refine vl_v (q_move rfl) rfl ?_
          refine vl_vg rfl (q_move rfl) rfl ?_
          refine vl_vg rfl (q_move rfl) rfl ?_
          refine vl_vg rfl (q_true (q_eql_n Try.underlying41 rfl rfl) (decide_eq_true rfl)) rfl ?_
          first | (refine vl_v (q_pickT rfl rfl) rfl ?_) | (refine vl_v (q_pickF rfl rfl) rfl ?_)
          refine vl_v (q_assign rfl) rfl ?_
          obtain ⟨ug, ul, um⟩ := putM_ok (M := mids ms) (many := many) (X := q.X) (s := q.s) (mids_good hok) (by rw [mids_length]; exact h8) (fun id => ⟨⟨hqo.cm, hqo.pub, hqo.s⟩, ⟨hqo.h, hqo.fs⟩, by show q.X.body.length ≤ 1000; omega⟩)
          rw [hu] at ug ul um
          have hz : (⟨i + 1, u.many, A1, c1, ms1, B1, k1, r1, ns1, N2 ++ (N1 ++ G)⟩ : PSt).ok l.length := ⟨hil, Nat.le_trans um (Nat.succ_le_succ hmy), hm1.trans hm2.symm, good_mids hm1 ug, by rw [← mids_length, hm1]; exact ul, hr1, hk1, (hg1.new hF1).more N2, (hg2.more N1).new hF2⟩
          obtain ⟨G1, hG1⟩ : ∃ q, q = N2 ++ (N1 ++ G) := ⟨_, rfl⟩
          obtain ⟨m1, hm1e⟩ : ∃ q, q = u.many := ⟨_, rfl⟩
          rw [← hG1, ← hm1e] at hz ⊢
          refine vl_nil ?_
          refine (th_n ?_)
          refine VC_seq ?_
          obtain ⟨hi1, hmy1, heq1, hok1, h81, hr1', hk1', hg11, hg21⟩ := id hz
          dsimp only at hi1 hmy1 heq1 hok1 h81 hr1' hk1' hg11 hg21
          refine VC_frame (X := [_, _, _, _, _]) (fun w9 H9 => ?_)
          refine VC_drawQ 6 5 [[], [0], [], [2], [3], [4], [1, 5], [6, 0, 1, 2, 3, 4, 5]] [[], [0], [], [2], [2, 3], [2, 3, 4], [0, 1, 2, 3, 4, 5], [0, 1, 2, 3, 4, 5, 6]] [([], [], [], [0, 1, 2, 3, 4], []), ([0], [2], [], [0, 1, 3, 4], [0]), ([], [], [], [0, 1, 3, 4], []), ([2], [], [], [0, 1, 3, 4], [2]), ([2, 3], [], [], [0, 1, 3, 4], [2, 3]), ([2, 3, 4], [], [], [0, 1, 3, 4], [2, 3, 4])] [0, 1, 3, 4] [0, 1, 2, 3, 4, 5] rfl rfl (by kernel_rfl) ?_
          refine qp_v (fun xs gs hx => q_move rfl) ?_
          refine qp_callE (fun xs gs v g => v = .slice (decM (mids ms1) g).1.1 ms1.length (decM (mids ms1) g).1.2 ∧ mids (decM (mids ms1) g).2 = mids ms1) (fun xs gs v g => .blk b7 40 q.cells :: .row 52 138 (.slice (decM (mids ms1) g).1.1 ms1.length (decM (mids ms1) g).1.2) ms1.length (mailsC (decM (mids ms1) g).2) :: bods (decM (mids ms1) g).2) Try.func14 rfl rfl (args := fun xs gs => [vP x15 0]) (fun xs gs hx => rfl) (fun xs gs hx R w1 H1 => (list_calls w1 x15 c1 m1 A1 ms1 (fun y hy => (hok1 y hy).1) (fun y hy => (hok1 y hy).2.2) h81 (Reads.blk 3 rfl w1 H1) (Reads.row 4 rfl w1 H1) (hg11 w1 (rest_ok H9 H1))).mono fun e w' h => (by obtain ⟨z9, h1, h2, h3⟩ := h; obtain ⟨g9, hg9⟩ := bm_ghost z9.1 z9.2; rw [h2] at hg9; refine ⟨_, g9, h1, (by intro h; cases h), ⟨(by rw [hg9]), (by rw [hg9]; exact h2)⟩, ?_⟩; rw [hg9]; exact (H1.join h3).perm (mvZ [.blk b7 40 q.cells] _ (_ :: bods z9.2)))) ?_
          refine qp_v (fun xs gs hx => q_move rfl) ?_
          refine qp_v (fun xs gs hx => q_nilck rfl) ?_
          refine qp_v (fun xs gs hx => q_fldA fo29_0 (by decide) rfl rfl) ?_
          refine qp_v (fun xs gs hx => q_load 0 Try.underlying27 rfl rfl rfl rfl) ?_
          refine qp_end ?_
          intro xs gs hx
          obtain ⟨f84, _⟩ := hx
          simp only [selI, ownsA, List.contains_cons, List.contains_nil, Nat.reduceBEq, Nat.reduceAdd, Bool.or_false, Bool.or_true, Bool.false_or, Bool.true_or, mask, nRow, nBlk, nRowT, tupAt_0, tupAt_1, List.append_assoc, List.nil_append, List.append_nil, List.cons_append, List.singleton_append]
          obtain ⟨e84, f84⟩ := f84
          simp only [e84]
          obtain ⟨z2, hz2⟩ : ∃ z, decM (mids ms1) (gs 1) = z := ⟨_, rfl⟩
          rw [hz2] at f84 ⊢
          obtain ⟨⟨AL, cL⟩, zs⟩ := z2
          dsimp only at f84 ⊢
          have hzl : ms1.length = zs.length := by rw [← mids_length ms1, ← f84, mids_length]
          have hzok : ∀ y ∈ zs, Mm.good y.1 := good_mids f84 (mids_good hok1)
          rw [hzl] at H9 ⊢
          refine VL.keep (Sub.cons (s := 0) rfl (Sub.cons (s := 3) rfl (Sub.cons (s := 4) rfl (Sub.cons (s := 5) rfl (Sub.cons (s := 6) rfl (Sub.cons (s := 27) rfl (Sub.cons (s := 7) rfl (Sub.cons (s := 38) rfl (Sub.cons (s := 8) rfl (Sub.cons (s := 47) rfl (Sub.cons (s := 9) rfl (Sub.cons (s := 10) rfl (Sub.cons (s := 11) rfl (Sub.cons (s := 12) rfl (Sub.cons (s := 84) rfl (Sub.cons (s := 88) rfl (Sub.nil _))))))))))))))))) ?_
          refine vl_v (q_callV Try.func13 rfl rfl rfl (fun w' H' => same19_calls w' zs ns1 AL B1 cL k1 (fun y hy => (hzok y hy).1) (fun y hy => (hzok y hy).2.1) (by omega) (f84.trans heq1) (Row.sl (H'.ok (.row 52 138 (.slice AL zs.length cL) zs.length (mailsC zs)) (by simp))) (hr1' w' (H'.get (k := 1) rfl)) (fun y hy => Row.sl (H'.ok _ (List.mem_append_right [_, _, _, _, _, _] (bods_mem hy)))) (hg21 w' (rest_ok H9 H')))) rfl ?_
          refine vl_v (q_assign rfl) rfl ?_
          refine vl_nil ?_
          refine (qn_n (th_n ?_))
          refine VC_seq ?_
          refine VC_region ?_
          refine vl_v (q_move rfl) rfl ?_
          refine vl_v (q_not rfl) rfl ?_
          refine vl_v (q_move rfl) rfl ?_
          refine vl_vg rfl (q_move rfl) rfl ?_
          refine vl_vg rfl (q_not rfl) rfl ?_
          first | (refine vl_v (q_pickT rfl rfl) rfl ?_) | (refine vl_v (q_pickF rfl rfl) rfl ?_)
          refine vl_nil ?_
          refine (th_n ?_)
          refine VC_no (rfl) ?_
          refine VC_skip ?_
          refine (bl_n (th_n ?_))
          refine VC_region ?_
          refine vl_v (q_move rfl) rfl ?_
          first | (refine vl_v (q_add_n (q := 1) rfl rfl (by omega)) rfl ?_) | (refine vl_v (q_add_i rfl rfl (by omega) (by omega)) rfl ?_)
          refine vl_v (q_assign rfl) rfl ?_
          refine vl_nil ?_
          refine (th_n ?_)
          refine ⟨⟨i + 1, m1, A1, c1, ms1, B1, k1, r1, ns1, G1⟩, hz, by show l.length - (i + 1) < l.length - i; omega, (Sub.cons (s := 0) rfl (Sub.cons (s := 3) rfl (Sub.cons (s := 4) rfl (Sub.cons (s := 5) rfl (Sub.cons (s := 6) rfl (Sub.nil _)))))), fun w H => (by rw [← hzl] at H; exact drop19 H)⟩
        · skip
          rw [show decide (q.d = 0) = false from decide_eq_false hs42]
          refine vl_v (q_move rfl) rfl ?_
          refine vl_vg rfl (q_fldA fo40_0 (by decide) rfl rfl) rfl ?_
          refine vl_vg rfl (q_load 0 Try.underlying3 rfl rfl rfl hqf.g0) rfl ?_
          refine vl_vg rfl (q_eql_k (q := 1) Try.underlying3 rfl rfl) rfl ?_
          first | (refine vl_v (q_pickT rfl rfl) rfl ?_) | (refine vl_v (q_pickF rfl rfl) rfl ?_)
          refine vl_nil ?_
          refine (th_n ?_)
          refine VC_cond rfl (fun ht47 => ?_) (fun ht47 => ?_)
          · skip
            have ht47 := of_decide_eq_true ht47
            refine VC_seq ?_
            refine VC_region ?_
            obtain ⟨u, hu⟩ : ∃ u, putM (mids ms) many q.X q.s = u := ⟨_, rfl⟩
            have hPs := fun (R : List Res) w1 H1 => put_calls (w := w) (w1 := w1) (b := x15) (c := cS) (many := many) (A := AS) (ms := ms) (R := R) q.X q.s q.x.1 q.x.2 hqo.cm hqo.pub hqo.s hmok (by omega) (by omega) hqo.b H1
            have hPd := fun (R : List Res) w1 H1 => rput_calls (w := w) (w1 := w1) (br := b17) (k := k) (many := many) (B := B) (r := r) (ms := ns) (R := R) q.X q.s q.x.1 q.x.2 hqo.cm hqo.pub hqo.s hnok hr hk (by omega) (by omega) hqo.b H1
            rw [← heq] at hPd
            rw [hu] at hPs hPd
            refine vl_v (q_move rfl) rfl ?_
            refine vl_v (q_fldA fo40_2 (by decide) rfl rfl) rfl ?_
            refine vl_v (q_loadsAt 0 Try.underlying36 rfl rfl rfl sz36 hqf.g2 hle) rfl ?_
            refine vl_v (q_fldA fo40_3 (by decide) rfl rfl) rfl ?_
            refine vl_v (q_loadsAt 0 Try.underlying38 rfl rfl rfl sz38 hqf.g3 hls) rfl ?_
            refine l_call (F := fun v L' => ∃ A' c' ms' N, v = .tuple #[vN u.id, vN u.e] ∧ mids ms' = u.l ∧ Fresh N ms ms' ∧ L' = [.blk x15 57 [.slice A' ms'.length c', vN u.many], .row 52 138 (.slice A' ms'.length c') ms'.length (mailsC ms'), .blk b7 40 q.cells, .blk b17 29 [.slice B ns.length k, vN many], r] ++ (N ++ G)) Try.func9 rfl rfl rfl (fun w1 H1 => (hPs ([.blk b7 40 q.cells, .blk b17 29 [.slice B ns.length k, vN many], r] ++ G) w1 (St.pickR (M := BoxR x15 AS cS ms many ++ [.blk b7 40 q.cells, .blk b17 29 [.slice B ns.length k, vN many], r]) (R := G) 5 H1 (ks := [1, 2, 0, 3, 4]) (by decide) (by decide) rfl rfl)).mono fun e w' h => ?_) rfl ?_
            · obtain ⟨A', c', ms', N, h1, h2, h3, h4⟩ := h
              exact ⟨_, _, h1, ⟨A', c', ms', N, rfl, h2, h3, rfl⟩, h4.perm (mvN _ _ [.blk b7 40 q.cells, .blk b17 29 [.slice B ns.length k, vN many], r] _)⟩
            rintro v L' ⟨A1, c1, ms1, N1, rfl, hm1, hF1, rfl⟩
            simp only [List.cons_append, List.nil_append]
            refine vl_v (q_move rfl) rfl ?_
            refine vl_v (q_ext rfl rfl) rfl ?_
            refine vl_v (q_ext rfl rfl) rfl ?_
            refine vl_v (q_assign rfl) rfl ?_
            refine vl_v (q_assign rfl) rfl ?_
            refine vl_nil ?_
            refine (th_n ?_)
            refine VC_seq ?_
            refine VC_region ?_
            refine vl_v (q_move rfl) rfl ?_
            refine vl_v (q_fldA fo40_2 (by decide) rfl rfl) rfl ?_
            refine vl_v (q_loadsAt 2 Try.underlying36 rfl rfl rfl sz36 hqf.g2 hle) rfl ?_
            refine vl_v (q_fldA fo40_3 (by decide) rfl rfl) rfl ?_
            refine vl_v (q_loadsAt 2 Try.underlying38 rfl rfl rfl sz38 hqf.g3 hls) rfl ?_
            refine l_call (F := fun v L' => ∃ B' k' r' ns' N, v = .tuple #[vN u.id, vN u.e] ∧ mids ns' = u.l ∧ Fresh N ns ns' ∧ (∀ w'', r'.ok w'' → SlAt w'' B' (mailsC ns')) ∧ ns'.length ≤ k' ∧ L' = [.blk b17 29 [.slice B' ns'.length k', vN u.many], r', .blk b7 40 q.cells, .blk x15 57 [.slice A1 ms1.length c1, vN u.many], .row 52 138 (.slice A1 ms1.length c1) ms1.length (mailsC ms1)] ++ (N ++ (N1 ++ G))) Try.func10 rfl rfl rfl (fun w1 H1 => (hPd ([.blk b7 40 q.cells, .blk x15 57 [.slice A1 ms1.length c1, vN u.many], .row 52 138 (.slice A1 ms1.length c1) ms1.length (mailsC ms1)] ++ (N1 ++ G)) w1 (St.pickR (M := DocB b17 B k r ns many ++ [.blk b7 40 q.cells, .blk x15 57 [.slice A1 ms1.length c1, vN u.many], .row 52 138 (.slice A1 ms1.length c1) ms1.length (mailsC ms1)]) (R := N1 ++ G) 5 H1 (ks := [3, 4, 2, 0, 1]) (by decide) (by decide) rfl rfl)).mono fun e w' h => ?_) rfl ?_
            · obtain ⟨B', k', r', ns', N, h1, h2, h3, h4, h5, h6⟩ := h
              exact ⟨_, _, h1, ⟨B', k', r', ns', N, rfl, h2, h3, h4, h5, rfl⟩, h6.perm (mvN _ _ [.blk b7 40 q.cells, .blk x15 57 [.slice A1 ms1.length c1, vN u.many], .row 52 138 (.slice A1 ms1.length c1) ms1.length (mailsC ms1)] _)⟩
            rintro v L' ⟨B1, k1, r1, ns1, N2, rfl, hm2, hF2, hr1, hk1, rfl⟩
            simp only [List.cons_append, List.nil_append]
            refine vl_v (q_move rfl) rfl ?_
            refine vl_v (q_ext rfl rfl) rfl ?_
            refine vl_v (q_ext rfl rfl) rfl ?_
            refine vl_v (q_assign rfl) rfl ?_
            refine vl_v (q_assign rfl) rfl ?_
            refine vl_nil ?_
            refine (th_n ?_)
            refine VC_region ?_
            refine vl_v (q_move rfl) rfl ?_
            refine vl_v (q_move rfl) rfl ?_
            refine vl_v (q_true (q_eql_n Try.underlying3 rfl rfl) (decide_eq_true rfl)) rfl ?_
            refine vl_v (q_move rfl) rfl ?_
            refine vl_vg rfl (q_move rfl) rfl ?_
            refine vl_vg rfl (q_move rfl) rfl ?_
            refine vl_vg rfl (q_true (q_eql_n Try.underlying41 rfl rfl) (decide_eq_true rfl)) rfl ?_
            first | (refine vl_v (q_pickT rfl rfl) rfl ?_) | (refine vl_v (q_pickF rfl rfl) rfl ?_)
            refine vl_v (q_assign rfl) rfl ?_
            obtain ⟨ug, ul, um⟩ := putM_ok (M := mids ms) (many := many) (X := q.X) (s := q.s) (mids_good hok) (by rw [mids_length]; exact h8) (fun id => ⟨⟨hqo.cm, hqo.pub, hqo.s⟩, ⟨hqo.h, hqo.fs⟩, by show q.X.body.length ≤ 1000; omega⟩)
            rw [hu] at ug ul um
            have hz : (⟨i + 1, u.many, A1, c1, ms1, B1, k1, r1, ns1, N2 ++ (N1 ++ G)⟩ : PSt).ok l.length := ⟨hil, Nat.le_trans um (Nat.succ_le_succ hmy), hm1.trans hm2.symm, good_mids hm1 ug, by rw [← mids_length, hm1]; exact ul, hr1, hk1, (hg1.new hF1).more N2, (hg2.more N1).new hF2⟩
            obtain ⟨G1, hG1⟩ : ∃ q, q = N2 ++ (N1 ++ G) := ⟨_, rfl⟩
            obtain ⟨m1, hm1e⟩ : ∃ q, q = u.many := ⟨_, rfl⟩
            rw [← hG1, ← hm1e] at hz ⊢
            refine vl_nil ?_
            refine (th_n ?_)
            refine VC_seq ?_
            obtain ⟨hi1, hmy1, heq1, hok1, h81, hr1', hk1', hg11, hg21⟩ := id hz
            dsimp only at hi1 hmy1 heq1 hok1 h81 hr1' hk1' hg11 hg21
            refine VC_frame (X := [_, _, _, _, _]) (fun w9 H9 => ?_)
            refine VC_drawQ 6 5 [[], [0], [], [2], [3], [4], [1, 5], [6, 0, 1, 2, 3, 4, 5]] [[], [0], [], [2], [2, 3], [2, 3, 4], [0, 1, 2, 3, 4, 5], [0, 1, 2, 3, 4, 5, 6]] [([], [], [], [0, 1, 2, 3, 4], []), ([0], [2], [], [0, 1, 3, 4], [0]), ([], [], [], [0, 1, 3, 4], []), ([2], [], [], [0, 1, 3, 4], [2]), ([2, 3], [], [], [0, 1, 3, 4], [2, 3]), ([2, 3, 4], [], [], [0, 1, 3, 4], [2, 3, 4])] [0, 1, 3, 4] [0, 1, 2, 3, 4, 5] rfl rfl (by kernel_rfl) ?_
            refine qp_v (fun xs gs hx => q_move rfl) ?_
            refine qp_callE (fun xs gs v g => v = .slice (decM (mids ms1) g).1.1 ms1.length (decM (mids ms1) g).1.2 ∧ mids (decM (mids ms1) g).2 = mids ms1) (fun xs gs v g => .blk b7 40 q.cells :: .row 52 138 (.slice (decM (mids ms1) g).1.1 ms1.length (decM (mids ms1) g).1.2) ms1.length (mailsC (decM (mids ms1) g).2) :: bods (decM (mids ms1) g).2) Try.func14 rfl rfl (args := fun xs gs => [vP x15 0]) (fun xs gs hx => rfl) (fun xs gs hx R w1 H1 => (list_calls w1 x15 c1 m1 A1 ms1 (fun y hy => (hok1 y hy).1) (fun y hy => (hok1 y hy).2.2) h81 (Reads.blk 3 rfl w1 H1) (Reads.row 4 rfl w1 H1) (hg11 w1 (rest_ok H9 H1))).mono fun e w' h => (by obtain ⟨z9, h1, h2, h3⟩ := h; obtain ⟨g9, hg9⟩ := bm_ghost z9.1 z9.2; rw [h2] at hg9; refine ⟨_, g9, h1, (by intro h; cases h), ⟨(by rw [hg9]), (by rw [hg9]; exact h2)⟩, ?_⟩; rw [hg9]; exact (H1.join h3).perm (mvZ [.blk b7 40 q.cells] _ (_ :: bods z9.2)))) ?_
            refine qp_v (fun xs gs hx => q_move rfl) ?_
            refine qp_v (fun xs gs hx => q_nilck rfl) ?_
            refine qp_v (fun xs gs hx => q_fldA fo29_0 (by decide) rfl rfl) ?_
            refine qp_v (fun xs gs hx => q_load 0 Try.underlying27 rfl rfl rfl rfl) ?_
            refine qp_end ?_
            intro xs gs hx
            obtain ⟨f84, _⟩ := hx
            simp only [selI, ownsA, List.contains_cons, List.contains_nil, Nat.reduceBEq, Nat.reduceAdd, Bool.or_false, Bool.or_true, Bool.false_or, Bool.true_or, mask, nRow, nBlk, nRowT, tupAt_0, tupAt_1, List.append_assoc, List.nil_append, List.append_nil, List.cons_append, List.singleton_append]
            obtain ⟨e84, f84⟩ := f84
            simp only [e84]
            obtain ⟨z2, hz2⟩ : ∃ z, decM (mids ms1) (gs 1) = z := ⟨_, rfl⟩
            rw [hz2] at f84 ⊢
            obtain ⟨⟨AL, cL⟩, zs⟩ := z2
            dsimp only at f84 ⊢
            have hzl : ms1.length = zs.length := by rw [← mids_length ms1, ← f84, mids_length]
            have hzok : ∀ y ∈ zs, Mm.good y.1 := good_mids f84 (mids_good hok1)
            rw [hzl] at H9 ⊢
            refine VL.keep (Sub.cons (s := 0) rfl (Sub.cons (s := 3) rfl (Sub.cons (s := 4) rfl (Sub.cons (s := 5) rfl (Sub.cons (s := 6) rfl (Sub.cons (s := 27) rfl (Sub.cons (s := 7) rfl (Sub.cons (s := 38) rfl (Sub.cons (s := 8) rfl (Sub.cons (s := 47) rfl (Sub.cons (s := 9) rfl (Sub.cons (s := 10) rfl (Sub.cons (s := 11) rfl (Sub.cons (s := 12) rfl (Sub.cons (s := 84) rfl (Sub.cons (s := 88) rfl (Sub.nil _))))))))))))))))) ?_
            refine vl_v (q_callV Try.func13 rfl rfl rfl (fun w' H' => same19_calls w' zs ns1 AL B1 cL k1 (fun y hy => (hzok y hy).1) (fun y hy => (hzok y hy).2.1) (by omega) (f84.trans heq1) (Row.sl (H'.ok (.row 52 138 (.slice AL zs.length cL) zs.length (mailsC zs)) (by simp))) (hr1' w' (H'.get (k := 1) rfl)) (fun y hy => Row.sl (H'.ok _ (List.mem_append_right [_, _, _, _, _, _] (bods_mem hy)))) (hg21 w' (rest_ok H9 H')))) rfl ?_
            refine vl_v (q_assign rfl) rfl ?_
            refine vl_nil ?_
            refine (qn_n (th_n ?_))
            refine VC_seq ?_
            refine VC_region ?_
            refine vl_v (q_move rfl) rfl ?_
            refine vl_v (q_not rfl) rfl ?_
            refine vl_v (q_move rfl) rfl ?_
            refine vl_vg rfl (q_move rfl) rfl ?_
            refine vl_vg rfl (q_not rfl) rfl ?_
            first | (refine vl_v (q_pickT rfl rfl) rfl ?_) | (refine vl_v (q_pickF rfl rfl) rfl ?_)
            refine vl_nil ?_
            refine (th_n ?_)
            refine VC_no (rfl) ?_
            refine VC_skip ?_
            refine (bl_n (th_n ?_))
            refine VC_region ?_
            refine vl_v (q_move rfl) rfl ?_
            first | (refine vl_v (q_add_n (q := 1) rfl rfl (by omega)) rfl ?_) | (refine vl_v (q_add_i rfl rfl (by omega) (by omega)) rfl ?_)
            refine vl_v (q_assign rfl) rfl ?_
            refine vl_nil ?_
            refine (th_n ?_)
            refine ⟨⟨i + 1, m1, A1, c1, ms1, B1, k1, r1, ns1, G1⟩, hz, by show l.length - (i + 1) < l.length - i; omega, (Sub.cons (s := 0) rfl (Sub.cons (s := 3) rfl (Sub.cons (s := 4) rfl (Sub.cons (s := 5) rfl (Sub.cons (s := 6) rfl (Sub.nil _)))))), fun w H => (by rw [← hzl] at H; exact drop19 H)⟩
          · skip
            have ht47 := of_decide_eq_false ht47
            have hPs := fun (S : List Nat) (w0 : World) (R : List Res) w1 H1 => ack_calls (S := S) (w0 := w0) (w1 := w1) (b := x15) (c := cS) (many := many) (A := AS) (ms := ms) (R := R) q.id hqo.id hmok h8 H1
            have hPd := fun (S : List Nat) (w0 : World) (R : List Res) w1 H1 => rack_calls (S := S) (w0 := w0) (w1 := w1) (br := b17) (k := k) (many := many) (B := B) (r := r) (ms := ns) (R := R) q.id hqo.id hnok (by omega) hr hk H1
            obtain ⟨u, hu⟩ : ∃ u, ackM (mids ms) many q.id = u := ⟨_, rfl⟩
            rw [← heq] at hPd
            rw [hu] at hPs hPd
            refine VC_frame (X := [_, _, _, _, _]) (fun w9 H9 => ?_)
            refine VC_drawQ 7 5 [[], [], [1], [0, 2], [], [], [5], [4, 6, 3], [3, 7], [8, 7, 0, 1, 2, 3, 4, 5, 6]] [[], [], [1], [0, 1, 2], [], [], [5], [0, 1, 2, 3, 4, 5, 6], [0, 1, 2, 3, 4, 5, 6, 7], [0, 1, 2, 3, 4, 5, 6, 7, 8]] [([], [], [], [0, 1, 2, 3, 4], []), ([], [], [], [0, 1, 2, 3, 4], []), ([1], [], [], [0, 1, 2, 3, 4], [1]), ([0, 1, 2], [1, 2], [], [0, 3, 4], [0, 1, 2]), ([], [], [], [0, 3, 4], []), ([], [], [], [0, 3, 4], []), ([5], [], [], [0, 3, 4], [5])] [0, 3, 4] [0, 1, 2, 3, 4, 5, 6] rfl rfl (by kernel_rfl) ?_
            refine qp_v (fun xs gs hx => q_move rfl) ?_
            refine qp_v (fun xs gs hx => q_fldA fo40_1 (by decide) rfl rfl) ?_
            refine qp_v (fun xs gs hx => q_load 0 Try.underlying3 rfl rfl rfl hqf.g1) ?_
            refine qp_callE (fun xs gs v g => v = vN u.1 ∧ mids (decM u.2 g).2 = u.2 ∧ ∀ y ∈ (decM u.2 g).2, y ∈ ms) (fun xs gs v g => BoxR x15 (decM u.2 g).1.1 (decM u.2 g).1.2 (decM u.2 g).2 many) Try.func11 rfl rfl (args := fun xs gs => [vP x15 0, vI q.id]) (fun xs gs hx => rfl) (fun xs gs hx R w1 H1 => (hPs _ _ _ w1 H1).mono fun e w' h => (by obtain ⟨A', c', ms', h1, h2, h3, h4⟩ := h; obtain ⟨g9, hg9⟩ := bm_ghost (A', c') ms'; rw [h2] at hg9; refine ⟨_, g9, h1, (by intro h; cases h), ⟨rfl, ?_, ?_⟩, ?_⟩; rw [hg9]; exact h2; rw [hg9]; exact h3; rw [hg9]; exact h4)) ?_
            refine qp_v (fun xs gs hx => q_move rfl) ?_
            refine qp_v (fun xs gs hx => q_fldA fo40_1 (by decide) rfl rfl) ?_
            refine qp_v (fun xs gs hx => q_load 0 Try.underlying3 rfl rfl rfl hqf.g1) ?_
            refine qp_end ?_
            intro xs gs hx
            obtain ⟨f77, _⟩ := hx
            simp only [selI, ownsA, List.contains_cons, List.contains_nil, Nat.reduceBEq, Nat.reduceAdd, Bool.or_false, Bool.or_true, Bool.false_or, Bool.true_or, mask, nRow, nBlk, nRowT, tupAt_0, tupAt_1, List.append_assoc, List.nil_append, List.append_nil, List.cons_append, List.singleton_append]
            obtain ⟨e77, f77, g77⟩ := f77
            simp only [e77]
            obtain ⟨z1, hz1⟩ : ∃ z, decM u.2 (gs 3) = z := ⟨_, rfl⟩
            rw [hz1] at f77 g77 ⊢
            obtain ⟨⟨A1, c1⟩, ms1⟩ := z1
            dsimp only at f77 g77 ⊢
            simp only [BoxR, List.cons_append, List.nil_append, List.append_nil]
            refine VL.keep (Sub.cons (s := 0) rfl (Sub.cons (s := 3) rfl (Sub.cons (s := 4) rfl (Sub.cons (s := 5) rfl (Sub.cons (s := 6) rfl (Sub.cons (s := 27) rfl (Sub.cons (s := 7) rfl (Sub.cons (s := 38) rfl (Sub.cons (s := 8) rfl (Sub.cons (s := 47) rfl (Sub.cons (s := 77) rfl (Sub.cons (s := 78) rfl (Sub.cons (s := 80) rfl (Sub.nil _)))))))))))))) ?_
            refine l_call (F := fun v L' => ∃ B' k' r' ns', v = vN u.1 ∧ mids ns' = u.2 ∧ (∀ y ∈ ns', y ∈ ns) ∧ (∀ w'', r'.ok w'' → SlAt w'' B' (mailsC ns')) ∧ ns'.length ≤ k' ∧ L' = [.blk b17 29 [.slice B' ns'.length k', vN many], r', .blk b7 40 q.cells, .blk x15 57 [.slice A1 ms1.length c1, vN many], .row 52 138 (.slice A1 ms1.length c1) ms1.length (mailsC ms1)]) Try.func12 rfl rfl rfl (fun w1 H1 => (hPd _ _ [.blk b7 40 q.cells, .blk x15 57 [.slice A1 ms1.length c1, vN many], .row 52 138 (.slice A1 ms1.length c1) ms1.length (mailsC ms1)] w1 (St.pick H1 (ks := [1, 2, 0, 3, 4]) (by decide) rfl)).mono fun e w' h => ?_) rfl ?_
            · obtain ⟨B', k', r', ns', h1, h2, h3, h4, h5, h6⟩ := h
              exact ⟨_, _, h1, ⟨B', k', r', ns', rfl, h2, h3, h4, h5, rfl⟩, h6⟩
            rintro v L' ⟨B1, k1, r1, ns1, rfl, hm2, hF2, hr1, hk1, rfl⟩
            refine vl_v (q_true (q_eql_n Try.underlying41 rfl rfl) (decide_eq_true rfl)) rfl ?_
            refine vl_v (q_assign rfl) rfl ?_
            obtain ⟨ug, ul⟩ := ackM_ok (M := mids ms) (many := many) (id := q.id) (mids_good hok) (by rw [mids_length]; exact h8)
            rw [hu] at ug ul
            have hz : (⟨i + 1, many, A1, c1, ms1, B1, k1, r1, ns1, G⟩ : PSt).ok l.length := ⟨hil, Nat.le_succ_of_le hmy, f77.trans hm2.symm, good_mids f77 ug, by rw [← mids_length, f77]; exact ul, hr1, hk1, hg1.less g77, hg2.less hF2⟩
            obtain ⟨G1, hG1⟩ : ∃ q, q = G := ⟨_, rfl⟩
            obtain ⟨m1, hm1e⟩ : ∃ q, q = many := ⟨_, rfl⟩
            rw [← hG1, ← hm1e] at hz
            simp only [← hG1]
            simp only [← hm1e]
            refine vl_nil ?_
            refine (qn_n (th_n ?_))
            refine VC_seq ?_
            obtain ⟨hi1, hmy1, heq1, hok1, h81, hr1', hk1', hg11, hg21⟩ := id hz
            dsimp only at hi1 hmy1 heq1 hok1 h81 hr1' hk1' hg11 hg21
            refine VC_frame (X := [_, _, _, _, _]) (fun w9 H9 => ?_)
            refine VC_drawQ 6 5 [[], [0], [], [2], [3], [4], [1, 5], [6, 0, 1, 2, 3, 4, 5]] [[], [0], [], [2], [2, 3], [2, 3, 4], [0, 1, 2, 3, 4, 5], [0, 1, 2, 3, 4, 5, 6]] [([], [], [], [0, 1, 2, 3, 4], []), ([0], [2], [], [0, 1, 3, 4], [0]), ([], [], [], [0, 1, 3, 4], []), ([2], [], [], [0, 1, 3, 4], [2]), ([2, 3], [], [], [0, 1, 3, 4], [2, 3]), ([2, 3, 4], [], [], [0, 1, 3, 4], [2, 3, 4])] [0, 1, 3, 4] [0, 1, 2, 3, 4, 5] rfl rfl (by kernel_rfl) ?_
            refine qp_v (fun xs gs hx => q_move rfl) ?_
            refine qp_callE (fun xs gs v g => v = .slice (decM (mids ms1) g).1.1 ms1.length (decM (mids ms1) g).1.2 ∧ mids (decM (mids ms1) g).2 = mids ms1) (fun xs gs v g => .blk b7 40 q.cells :: .row 52 138 (.slice (decM (mids ms1) g).1.1 ms1.length (decM (mids ms1) g).1.2) ms1.length (mailsC (decM (mids ms1) g).2) :: bods (decM (mids ms1) g).2) Try.func14 rfl rfl (args := fun xs gs => [vP x15 0]) (fun xs gs hx => rfl) (fun xs gs hx R w1 H1 => (list_calls w1 x15 c1 m1 A1 ms1 (fun y hy => (hok1 y hy).1) (fun y hy => (hok1 y hy).2.2) h81 (Reads.blk 3 rfl w1 H1) (Reads.row 4 rfl w1 H1) (hg11 w1 (rest_ok H9 H1))).mono fun e w' h => (by obtain ⟨z9, h1, h2, h3⟩ := h; obtain ⟨g9, hg9⟩ := bm_ghost z9.1 z9.2; rw [h2] at hg9; refine ⟨_, g9, h1, (by intro h; cases h), ⟨(by rw [hg9]), (by rw [hg9]; exact h2)⟩, ?_⟩; rw [hg9]; exact (H1.join h3).perm (mvZ [.blk b7 40 q.cells] _ (_ :: bods z9.2)))) ?_
            refine qp_v (fun xs gs hx => q_move rfl) ?_
            refine qp_v (fun xs gs hx => q_nilck rfl) ?_
            refine qp_v (fun xs gs hx => q_fldA fo29_0 (by decide) rfl rfl) ?_
            refine qp_v (fun xs gs hx => q_load 0 Try.underlying27 rfl rfl rfl rfl) ?_
            refine qp_end ?_
            intro xs gs hx
            obtain ⟨f84, _⟩ := hx
            simp only [selI, ownsA, List.contains_cons, List.contains_nil, Nat.reduceBEq, Nat.reduceAdd, Bool.or_false, Bool.or_true, Bool.false_or, Bool.true_or, mask, nRow, nBlk, nRowT, tupAt_0, tupAt_1, List.append_assoc, List.nil_append, List.append_nil, List.cons_append, List.singleton_append]
            obtain ⟨e84, f84⟩ := f84
            simp only [e84]
            obtain ⟨z2, hz2⟩ : ∃ z, decM (mids ms1) (gs 1) = z := ⟨_, rfl⟩
            rw [hz2] at f84 ⊢
            obtain ⟨⟨AL, cL⟩, zs⟩ := z2
            dsimp only at f84 ⊢
            have hzl : ms1.length = zs.length := by rw [← mids_length ms1, ← f84, mids_length]
            have hzok : ∀ y ∈ zs, Mm.good y.1 := good_mids f84 (mids_good hok1)
            rw [hzl] at H9 ⊢
            refine VL.keep (Sub.cons (s := 0) rfl (Sub.cons (s := 3) rfl (Sub.cons (s := 4) rfl (Sub.cons (s := 5) rfl (Sub.cons (s := 6) rfl (Sub.cons (s := 27) rfl (Sub.cons (s := 7) rfl (Sub.cons (s := 38) rfl (Sub.cons (s := 8) rfl (Sub.cons (s := 47) rfl (Sub.cons (s := 84) rfl (Sub.cons (s := 88) rfl (Sub.nil _))))))))))))) ?_
            refine vl_v (q_callV Try.func13 rfl rfl rfl (fun w' H' => same19_calls w' zs ns1 AL B1 cL k1 (fun y hy => (hzok y hy).1) (fun y hy => (hzok y hy).2.1) (by omega) (f84.trans heq1) (Row.sl (H'.ok (.row 52 138 (.slice AL zs.length cL) zs.length (mailsC zs)) (by simp))) (hr1' w' (H'.get (k := 1) rfl)) (fun y hy => Row.sl (H'.ok _ (List.mem_append_right [_, _, _, _, _, _] (bods_mem hy)))) (hg21 w' (rest_ok H9 H')))) rfl ?_
            refine vl_v (q_assign rfl) rfl ?_
            refine vl_nil ?_
            refine (qn_n (th_n ?_))
            refine VC_seq ?_
            refine VC_region ?_
            refine vl_v (q_move rfl) rfl ?_
            refine vl_v (q_not rfl) rfl ?_
            refine vl_v (q_move rfl) rfl ?_
            refine vl_vg rfl (q_move rfl) rfl ?_
            refine vl_vg rfl (q_not rfl) rfl ?_
            first | (refine vl_v (q_pickT rfl rfl) rfl ?_) | (refine vl_v (q_pickF rfl rfl) rfl ?_)
            refine vl_nil ?_
            refine (th_n ?_)
            refine VC_no (rfl) ?_
            refine VC_skip ?_
            refine (bl_n (th_n ?_))
            refine VC_region ?_
            refine vl_v (q_move rfl) rfl ?_
            first | (refine vl_v (q_add_n (q := 1) rfl rfl (by omega)) rfl ?_) | (refine vl_v (q_add_i rfl rfl (by omega) (by omega)) rfl ?_)
            refine vl_v (q_assign rfl) rfl ?_
            refine vl_nil ?_
            refine (th_n ?_)
            refine ⟨⟨i + 1, m1, A1, c1, ms1, B1, k1, r1, ns1, G1⟩, hz, by show l.length - (i + 1) < l.length - i; omega, (Sub.cons (s := 0) rfl (Sub.cons (s := 3) rfl (Sub.cons (s := 4) rfl (Sub.cons (s := 5) rfl (Sub.cons (s := 6) rfl (Sub.nil _)))))), fun w H => (by rw [← hzl] at H; exact drop19 H)⟩
    · skip
      refine VC_exit ?_
      refine (th_x (th_x (bl_xs (th_n ?_))))
      refine VC_seq ?_
      refine VC_region ?_
      refine vl_v (q_move rfl) rfl ?_
      refine vl_v (q_assign rfl) rfl ?_
      refine vl_nil ?_
      refine (th_n ?_)
      refine VC_ret ?_
      refine ⟨_, res1 rfl rfl, ?_⟩
      exact rfl
  · skip
    rw [show decide (i < l.length) = false from decide_eq_false hs23]
    refine vl_v (q_move rfl) rfl ?_
    refine vl_skip rfl rfl ?_
    refine vl_skip rfl rfl ?_
    first | (refine vl_v (q_pickT rfl rfl) rfl ?_) | (refine vl_v (q_pickF rfl rfl) rfl ?_)
    refine vl_nil ?_
    refine (th_n ?_)
    refine VC_no (rfl) ?_
    refine VC_exit ?_
    refine (th_x (th_x (bl_xs (th_n ?_))))
    refine VC_seq ?_
    refine VC_region ?_
    refine vl_v (q_move rfl) rfl ?_
    refine vl_v (q_assign rfl) rfl ?_
    refine vl_nil ?_
    refine (th_n ?_)
    refine VC_ret ?_
    refine ⟨_, res1 rfl rfl, ?_⟩
    exact rfl
theorem mailboxPlays.walk (w : World) (v0 : Value) (l : List OpM) (h0 : Ops19 w v0 l) :
    Calls Try.prog 3 #[v0] w fun e w' => e = .returned (.bool true) ∧ Kept [] w w' := by
  obtain ⟨A, c, rfl, hc, hA, hlo⟩ := h0
  exact mplays_all w l A c hc hA hlo

namespace mailboxPlays
open Go.ChangeShapes Go.WideShapes Go.ChangeAt Go.RowKit
theorem own : ownKnob Try.prog.godebug = none := by kernel_rfl
theorem laidOut : laidOutB Try.prog = true := by kernel_rfl
set_option maxRecDepth 100000 in
theorem lifted (os : Os) (started : os.Started) (H : Type) (enc : TypeId × Value → H) :
    ReturnsInHanded {} Try.checked os 3 .any (Rows.mailboxPlaysSpec.pre6 enc Try.prog Try.f3 Rows.mailboxPlaysRow.domain false) (Rows.mailboxPlaysSpec.post enc Try.prog Try.f3 false true false false) := by
  refine returnsInHanded_of_change (C := Try.checked) own started (by kernel_rfl) Try.func3
    (ChangeSpec.witness6 (enc := enc) (C := Try.checked) false ⟨#[], #[(.slice none 0 0)], []⟩ 8 (by kernel_rfl) (by kernel_rfl) (by kernel_rfl) (by kernel_rfl)) ?_
  intro W base args ds gs before hval0 hW hcnd _
  have hval : ∀ (j : Nat) t v, Try.f3.params[j]? = some t → args[j]? = some v → Value.okWide Try.prog W .any base t v := hval0
  have hW' := hW
  obtain ⟨p, q, hA0, hV, rfl, hfz, hnd⟩ := hW
  have hA : DataW.TrodAll enc Try.prog W 0 (fun _ => true) true Try.f3.params.toList args.toList ds p := hA0
  rw [Try.params3] at hA hval
  obtain ⟨v0, vs0, d0, ds0, p0, q0, hargs, rfl, rfl, h0, r0⟩ := trodAll_cons hA
  obtain ⟨rfl, rfl, rfl⟩ := trodAll_nil r0
  obtain rfl : args = #[v0] := by cases args; simp_all
  obtain ⟨rfl, rfl⟩ := trodVars_none hV
  have k0 := h0
  have lt0 : ∀ x ∈ p0, x.block < W.heap.size := by obtain ⟨m, hm⟩ := k0; exact DataW.trod_lt m _ _ _ hm
  obtain ⟨l0, g0⟩ := open_ops19 (hval 0 22 v0 rfl rfl) h0
  clear hA0 hval0
  refine (mailboxPlays.walk W v0 l0 g0).mono fun e W' ⟨he, hK⟩ => ?_
  subst he
  have bel := hK.below
  exact ⟨_, rfl, _, _, _, [], _, [], hW', trodAll_mk1 (shut_bool Try.underlying4 _), (trodAll_cons_mk (Below.trod laidOut (by kernel_rfl) (of_decide_eq_true (by kernel_rfl)) k0 bel lt0) trodAll_mk0), rfl, bel.frame _, fun h => by cases h⟩
theorem over : Rows.mailboxPlaysRow.holds Try.pinned (OpenSpec.ofChange Rows.mailboxPlaysSpec) :=
  OpenClaim.holds_of_wide 3 Try.f3 rfl rfl rfl rfl rfl rfl rfl ⟨rfl, rfl, rfl, rfl, rfl⟩ rfl rfl rfl rfl rfl (by kernel_rfl) Try.func3 (by kernel_rfl)
    (of_decide_eq_true (by kernel_rfl)) (by unfold Func.isWrapper; first | (rw [if_pos (by decide +kernel)]; kernel_rfl) | (rw [if_neg (by decide +kernel)]; exact ⟨rfl, rfl⟩))
    (fun os started H enc _ => lifted os started H enc)
theorem proved : Rows.MailboxPlaysSaid := over
end mailboxPlays
/-- The row. -/
theorem mailboxPlays_holds : Rows.MailboxPlaysSaid := mailboxPlays.proved
#print axioms mailboxPlays_holds

end Go.Proofs.Ytadaihpeionniaa
