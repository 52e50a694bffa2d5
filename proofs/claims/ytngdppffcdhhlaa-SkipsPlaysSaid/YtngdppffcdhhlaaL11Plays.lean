/- Any calls, one by one, against the document's store: the statement SkipsPlays. No condition. -/
import Derived.Test.YtngdppffcdhhlaaRows
import Derived.Test.YtngdppffcdhhlaaC11h
namespace Go.Proofs.Ytngdppffcdhhlaa
open Go.RowKit Go.PBYtngdppffcdhhlaa
set_option linter.unusedVariables false
set_option linter.unusedSimpArgs false
set_option maxRecDepth 10000

theorem kp_nil : Kp [] := ⟨good_nil, by simp⟩
theorem open_ops {H : Type} {enc : TypeId × Value → H} {w : World} {r : Reach} {b0 : Nat} {v : Value} {d : DataW H} {p : List MemPlace} (hv : Value.okWide Try.prog w r b0 37 v) (h : DataW.Trod enc Try.prog w 0 (fun _ => true) true 37 v d p) : ∃ xs, OpsV w v xs := by
  obtain ⟨vs, ⟨A, c, h1, h2, _, h3⟩, h4⟩ := open_flats (ks := opKinds) 6 Try.underlying37 (by kernel_rfl) (by kernel_rfl) (by decide) hv h
  obtain ⟨xs, rfl, hx⟩ := ops_of vs h4
  rw [List.length_map] at h1 h2
  exact ⟨xs, A, c, h1, h2, h3, hx⟩
theorem OpD.cells_one {x : OpD} : ∀ v ∈ x.cells, v.oneCell' = true := by
  intro v hv
  simp only [OpD.cells, List.mem_append, List.mem_singleton] at hv
  rcases hv with rfl | hv | rfl | hv
  · rfl
  · exact bys_one _ v hv
  · rfl
  · exact bys_one _ v hv
/-- where a turn stands: the store and the document's -/
structure PSt where
  i : Nat
  b : Nat
  m : Nat
  o : Obj
  A : Option Addr
  c : Nat
  L : List Ent
  B : Option Addr
  k : Nat
  r : Res
structure PSt.ok (n : Nat) (x : PSt) : Prop where
  le : x.i ≤ n
  e : MapOf x.o (mapE x.L)
  kp : Kp x.L
  hr : ∀ w'', x.r.ok w'' → SlAt w'' x.B (keptC x.L)
  hk : x.L.length ≤ x.k
def RPS (br : Nat) (x : PSt) : List Res := SkR x.b x.m x.o x.A x.c x.L ++ [.blk br 41 [.slice x.B x.L.length x.k], x.r]
set_option maxHeartbeats 16000000 in
theorem plays_all (w : World) (l : List OpD) (A : Option Addr) (c : Nat) (hc : l.length ≤ c) (hA : SlAt w A (opsL l)) (hlo : ∀ x ∈ l, x.ok) :
    Calls Try.prog 6 #[.slice A l.length c] w fun e w' => e = .returned (.bool true) ∧ Kept [] w w' := by
  refine enter (n := 114) (R := fun e L => e = .returned (.bool true)) [.slice A l.length c] Try.func6 rfl rfl rfl (St.refl w) ?_ (fun e w' L' h H => ⟨h, H.kept⟩)
  refine VC_seq ?_
  refine VC_region ?_
  refine vl_v (q_assign rfl) rfl ?_
  refine vl_nil ?_
  refine (th_n ?_)
  refine VC_seq ?_
  refine VC_region ?_
  refine vl_v (q_callV Try.func8 rfl rfl rfl (fun w1 H1 => awake11_calls w1)) rfl ?_
  refine vl_v (q_assign rfl) rfl ?_
  refine vl_nil ?_
  refine (th_n ?_)
  refine VC_seq ?_
  refine VC_region ?_
  refine l_call (F := fun v L' => ∃ bS' mm oo AA cc, v = vP bS' 0 ∧ MapOf oo (mapE []) ∧ L' = SkR bS' mm oo AA cc [] ++ []) Try.func9 rfl rfl rfl (fun w1 H1 => (new_calls w1).mono fun e w' h => ?_) rfl ?_
  · obtain ⟨bS', mm, h1, oo, AA, cc, hE, h2⟩ := h
    rw [List.append_nil] at h2
    exact ⟨_, _, h1, ⟨bS', mm, oo, AA, cc, rfl, hE, rfl⟩, (H1.join h2).perm List.perm_append_comm⟩
  rintro v L' ⟨b0, m0, o0, A0, c0, rfl, hE0, rfl⟩
  simp only [SkR, List.cons_append, List.nil_append, List.append_nil]
  refine vl_v (q_assign rfl) rfl ?_
  refine vl_nil ?_
  refine (th_n ?_)
  refine VC_seq ?_
  refine VC_region ?_
  refine vl_v (q_build (c' := [.slice none 0 0]) rfl (by kernel_rfl)) rfl ?_
  refine l_boxA rfl rfl ?_
  intro b17
  refine vl_v (q_assign rfl) rfl ?_
  refine vl_nil ?_
  refine (th_n ?_)
  refine VC_seq ?_
  refine VC_seq ?_
  refine VC_region ?_
  refine vl_v (q_move rfl) rfl ?_
  refine vl_v (q_eqPN Try.underlying26 rfl rfl) rfl ?_
  refine vl_nil ?_
  refine (th_n ?_)
  refine VC_no (rfl) ?_
  refine VC_skip ?_
  refine (th_n ?_)
  refine VC_seq ?_
  refine VC_seq ?_
  refine VC_region ?_
  refine vl_v (q_assign rfl) rfl ?_
  refine vl_nil ?_
  refine (th_n ?_)
  refine VC_block ?_
  refine VC_loop (ι := PSt) (fun x => x.ok l.length) (fun x => [(0, .slice A l.length c), (3, .bool true), (4, vP x.b 0), (5, vP b17 0), (6, vN x.i)]) (fun x => RPS b17 x) (fun x => l.length - x.i) ⟨0, b0, m0, o0, A0, c0, [], none, 0, .row 55 65 (.slice none 0 0) 0 []⟩ (⟨Nat.zero_le _, hE0, kp_nil, fun w'' h'' => SlAt.nil w'' none, Nat.le_refl _⟩) (Sub.cons (s := 0) rfl (Sub.cons (s := 3) rfl (Sub.cons (s := 4) rfl (Sub.cons (s := 5) rfl (Sub.cons (s := 6) rfl (Sub.nil _)))))) (fun w H => St.pick (H.addNil 55 65) (ks := [1, 2, 3, 0, 4]) (by decide) rfl) ?_
  rintro ⟨i, b, m, o, AS, cS, L, B, k, r⟩ hp
  obtain ⟨hi, hE, kP, hr, hk⟩ := hp
  dsimp only at hi hE kP hr hk
  dsimp only
  simp only [RPS, SkR, List.cons_append, List.nil_append, List.append_nil]
  refine VC_seq ?_
  refine VC_seq ?_
  refine VC_region ?_
  refine vl_v (q_move rfl) rfl ?_
  refine vl_v (q_move rfl) rfl ?_
  refine vl_v (q_lenS Try.underlying37 rfl) rfl ?_
  first | (refine vl_v (q_lss_n Try.underlying3 rfl rfl) rfl ?_) | (refine vl_v (q_lss_k Try.underlying3 rfl rfl) rfl ?_)
  by_cases hs23 : i < l.length
  · skip
    rw [show decide (i < l.length) = true from decide_eq_true hs23]
    refine vl_v (q_move rfl) rfl ?_
    refine vl_vg rfl (q_move rfl) rfl ?_
    refine vl_vg rfl (q_lss_n (q := 120) Try.underlying3 rfl rfl) rfl ?_
    first | (refine vl_v (q_pickT rfl rfl) rfl ?_) | (refine vl_v (q_pickF rfl rfl) rfl ?_)
    refine vl_nil ?_
    refine (th_n ?_)
    refine VC_cond rfl (fun ht27 => ?_) (fun ht27 => ?_)
    · skip
      have hil := hs23
      have ht27 := of_decide_eq_true ht27
      obtain ⟨x, hx⟩ : ∃ x, l[i]? = some x := ⟨_, List.getElem?_eq_getElem (by omega)⟩
      have hxo := hlo x (List.mem_of_getElem? hx)
      have hpt := opsL_part hlo hx
      have hxf := op_f hxo
      have lxc := hxf.len
      have oxc := OpD.cells_one (x := x)
      have lp1 : (bys x.p).length = 32 := by rw [bys_length]; exact hxo.p
      have lp3 : (bys x.k).length = 32 := by rw [bys_length]; exact hxo.k
      refine VC_skip ?_
      refine (th_n ?_)
      refine VC_seq ?_
      refine VC_block ?_
      refine VC_seq ?_
      refine VC_region ?_
      refine vl_v (q_move rfl) rfl ?_
      refine vl_v (q_move rfl) rfl ?_
      refine vl_v (q_idxRdN (m := i) Try.underlying37 sz43 rfl rfl hil (Reads.old hA) (by rw [opsL_length hlo]; omega)) rfl ?_
      refine vl_v (q_loadsRd Try.underlying43 rfl sz43 rfl (Reads.old hA) hpt lxc (by omega)) rfl ?_
      refine l_allocA zr43 rfl ?_
      intro b7
      refine l_storeA 0 rfl rfl rfl sz43 (by first | with_reducible assumption | omega | (rw [bys_length, List.length_replicate]) | (show (bys (List.replicate 32 0)).length = 32; rw [bys_length, List.length_replicate]) | (simp only [List.length_append, bys_length, List.length_replicate]; rfl)) (by first | (with_reducible first | exact bys_one _ | exact u32s_one _ | exact u64s_one _ | exact i64s_one _ | exact n64s_one _ | assumption) | exact bys_one _ | exact u32s_one _ | exact u64s_one _ | exact i64s_one _ | exact one_all rfl | (refine app_one ?_ ?_ <;> first | exact bys_one _ | exact one_all rfl | (simp; done))) (by first | with_reducible assumption | omega | (rw [bys_length, List.length_replicate]) | (show (bys (List.replicate 32 0)).length = 32; rw [bys_length, List.length_replicate]) | (simp only [List.length_append, bys_length, List.length_replicate]; rfl)) ?_
      simp only [List.set_cons_zero, List.set_cons_succ]
      refine vl_nil ?_
      refine (th_n ?_)
      refine VC_seq ?_
      refine VC_region ?_
      refine vl_v (q_assign rfl) rfl ?_
      refine vl_nil ?_
      refine (th_n ?_)
      refine VC_seq ?_
      refine VC_seq ?_
      refine VC_region ?_
      refine vl_v (q_fldA fo43_0 (by decide) rfl rfl) rfl ?_
      refine vl_v (q_load 0 Try.underlying3 rfl rfl rfl hxf.g0) rfl ?_
      refine vl_nil ?_
      refine (th_n ?_)
      refine VC_block ?_
      refine VC_seq ?_
      refine VC_seq ?_
      refine VC_region ?_
      refine vl_v (q_eql_k (q := 0) Try.underlying3 rfl rfl) rfl ?_
      by_cases hs54 : x.d = 0
      · skip
        rw [show decide (x.d = 0) = true from decide_eq_true hs54]
        refine vl_v (q_assign rfl) rfl ?_
        refine vl_nil ?_
        refine (th_n ?_)
        refine VC_yes (rfl) ?_
        refine VC_skip ?_
        refine (th_n ?_)
        refine VC_yes (rfl) ?_
        have kP2 := kP.put (OpD.ent_ok hxo)
        have hPs := fun (R : List Res) w1 H1 => put_calls (S := []) (w0 := w) (w := w1) (b := b) (m := m) (o := o) (A := AS) (c := cS) (L := L) (R := R) x.ent hxo.p hxo.k hxo.n H1 hE kP.1 kP.2
        have hPd := fun (R : List Res) w1 H1 => dput_calls (S := []) (w0 := w) (w := w1) (br := b17) (c := k) (r := r) (A := B) (L := L) (R := R) x.ent hxo.p hxo.k hxo.n hr hk H1 kP.1 kP.2
        obtain ⟨Lp, hLp⟩ : ∃ z, (putR L x.ent).2 = z := ⟨_, rfl⟩
        obtain ⟨ep, hep⟩ : ∃ z, (putR L x.ent).1 = z := ⟨_, rfl⟩
        rw [hLp, hep] at hPs hPd
        rw [hLp] at kP2
        simp only [SkR, List.cons_append, List.nil_append, List.append_nil] at hPs hPd
        refine VC_drawQ 15 6 [[], [], [1], [], [3], [], [5], [0, 2, 4, 6], [], [], [9], [], [11], [], [13], [8, 10, 12, 14, 7], [7, 15], [16, 15, 0, 1, 2, 3, 4, 5, 6, 7, 8, 9, 10, 11, 12, 13, 14]] [[], [], [1], [], [3], [], [5], [0, 1, 2, 3, 4, 5, 6], [], [], [9], [], [11], [], [13], [0, 1, 2, 3, 4, 5, 6, 7, 8, 9, 10, 11, 12, 13, 14], [0, 1, 2, 3, 4, 5, 6, 7, 8, 9, 10, 11, 12, 13, 14, 15], [0, 1, 2, 3, 4, 5, 6, 7, 8, 9, 10, 11, 12, 13, 14, 15, 16]] [([], [], [], [0, 1, 2, 3, 4, 5], []), ([], [], [], [0, 1, 2, 3, 4, 5], []), ([1], [], [], [0, 1, 2, 3, 4, 5], [1]), ([], [], [], [0, 1, 2, 3, 4, 5], []), ([3], [], [], [0, 1, 2, 3, 4, 5], [3]), ([], [], [], [0, 1, 2, 3, 4, 5], []), ([5], [], [], [0, 1, 2, 3, 4, 5], [5]), ([0, 1, 2, 3, 4, 5, 6], [1, 2, 3], [], [0, 4, 5], [0, 1, 2, 3, 4, 5, 6]), ([], [], [], [0, 4, 5], []), ([], [], [], [0, 4, 5], []), ([9], [], [], [0, 4, 5], [9]), ([], [], [], [0, 4, 5], []), ([11], [], [], [0, 4, 5], [11]), ([], [], [], [0, 4, 5], []), ([13], [], [], [0, 4, 5], [13])] [0, 4, 5] [0, 1, 2, 3, 4, 5, 6, 7, 8, 9, 10, 11, 12, 13, 14] rfl rfl (by kernel_rfl) ?_
        refine qp_v (fun xs gs hx => q_move rfl) ?_
        refine qp_v (fun xs gs hx => q_fldA fo43_1 (by decide) rfl rfl) ?_
        refine qp_v (fun xs gs hx => q_loadsAt 0 Try.underlying23 rfl rfl rfl sz23 hxf.g1 lp1) ?_
        refine qp_v (fun xs gs hx => q_fldA fo43_2 (by decide) rfl rfl) ?_
        refine qp_v (fun xs gs hx => q_load 0 Try.underlying3 rfl rfl rfl hxf.g2) ?_
        refine qp_v (fun xs gs hx => q_fldA fo43_3 (by decide) rfl rfl) ?_
        refine qp_v (fun xs gs hx => q_loadsAt 0 Try.underlying23 rfl rfl rfl sz23 hxf.g3 lp3) ?_
        refine qp_callE (fun xs gs v g => v = .int .i64 ep ∧ MapOf (decS Lp g).1 (mapE Lp)) (fun xs gs v g => SkR b m (decS Lp g).1 (decS Lp g).2.1 (decS Lp g).2.2 Lp) Try.func10 rfl rfl (args := fun xs gs => [vP b 0, .agg (bys x.p).toArray, vI x.n, .agg (bys x.k).toArray]) (fun xs gs hx => rfl) (fun xs gs hx R w1 H1 => (hPs _ w1 H1).mono fun e w' h => (by obtain ⟨h1, o9, A9, c9, h2, h3⟩ := h; obtain ⟨g9, hg9⟩ := sk_ghost (A := A9) (c := c9) h2; have hg9 : decS Lp g9 = (o9, A9, c9) := hg9; refine ⟨_, g9, h1, (by intro h; cases h), ⟨rfl, ?_⟩, ?_⟩; rw [hg9]; exact h2; rw [hg9]; exact h3)) ?_
        refine qp_v (fun xs gs hx => q_move rfl) ?_
        refine qp_v (fun xs gs hx => q_fldA fo43_1 (by decide) rfl rfl) ?_
        refine qp_v (fun xs gs hx => q_loadsAt 0 Try.underlying23 rfl rfl rfl sz23 hxf.g1 lp1) ?_
        refine qp_v (fun xs gs hx => q_fldA fo43_2 (by decide) rfl rfl) ?_
        refine qp_v (fun xs gs hx => q_load 0 Try.underlying3 rfl rfl rfl hxf.g2) ?_
        refine qp_v (fun xs gs hx => q_fldA fo43_3 (by decide) rfl rfl) ?_
        refine qp_v (fun xs gs hx => q_loadsAt 0 Try.underlying23 rfl rfl rfl sz23 hxf.g3 lp3) ?_
        refine qp_end ?_
        intro xs gs hx
        obtain ⟨f63, _⟩ := hx
        simp only [selI, ownsA, List.contains_cons, List.contains_nil, Nat.reduceBEq, Nat.reduceAdd, Bool.or_false, Bool.or_true, Bool.false_or, Bool.true_or, mask, nRow, nBlk, nRowT, tupAt_0, tupAt_1, List.append_assoc, List.nil_append, List.append_nil, List.cons_append, List.singleton_append]
        obtain ⟨e63, f63⟩ := f63
        simp only [e63]
        obtain ⟨z1, hz1⟩ : ∃ z, decS Lp (gs 7) = z := ⟨_, rfl⟩
        rw [hz1] at f63 ⊢
        simp only [SkR, List.cons_append, List.nil_append, List.append_nil]
        refine VL.keep (Sub.cons (s := 0) rfl (Sub.cons (s := 3) rfl (Sub.cons (s := 4) rfl (Sub.cons (s := 5) rfl (Sub.cons (s := 6) rfl (Sub.cons (s := 27) rfl (Sub.cons (s := 7) rfl (Sub.cons (s := 8) rfl (Sub.cons (s := 35) rfl (Sub.cons (s := 53) rfl (Sub.cons (s := 63) rfl (Sub.cons (s := 64) rfl (Sub.cons (s := 66) rfl (Sub.cons (s := 68) rfl (Sub.cons (s := 70) rfl (Sub.nil _)))))))))))))))) ?_
        refine l_call (F := fun v L' => v = .int .i64 ep ∧ ∃ B' k' r', (∀ w'', r'.ok w'' → SlAt w'' B' (keptC Lp)) ∧ Lp.length ≤ k' ∧ L' = [.blk b17 41 [.slice B' Lp.length k'], r', .blk b7 43 x.cells, .blk b 49 [.map (some m), .slice z1.2.1 Lp.length z1.2.2], .obj m z1.1, .row 51 33 (.slice z1.2.1 Lp.length z1.2.2) Lp.length (ordC Lp)]) Try.func13 rfl rfl rfl (fun w1 H1 => (hPd _ w1 (St.pick H1 (ks := [1, 2, 0, 3, 4, 5]) (by decide) rfl)).mono fun e w' h => ?_) rfl ?_
        · obtain ⟨h1, B', k', r', h2, h3, h4⟩ := h
          exact ⟨_, _, h1, ⟨rfl, B', k', r', h2, h3, rfl⟩, h4⟩
        rintro v L' ⟨rfl, B', k', r', hr', hk', rfl⟩
        let z : PSt := ⟨i + 1, b, m, z1.1, z1.2.1, z1.2.2, Lp, B', k', r'⟩
        have hz : z.ok l.length := ⟨by show i + 1 ≤ l.length; omega, f63, kP2, hr', hk'⟩
        refine vl_v (q_as (v := .bool true) (q_eql_k Try.underlying28 rfl rfl) (by rw [decide_eq_true rfl])) rfl ?_
        refine vl_v (q_assign rfl) rfl ?_
        refine vl_nil ?_
        refine (qn_n (bl_n (th_n ?_)))
        refine VC_seq ?_
        refine VC_drawV 10 [[], [0], [1], [2], [3, 2], [2], [5, 2], [6, 2], [7, 2], [8, 2], [4, 9, 2], [2, 10]] [[], [0], [0, 1], [0, 1, 2], [0, 1, 2, 3], [0, 1, 2], [0, 1, 2, 5], [0, 1, 2, 5, 6], [0, 1, 2, 5, 6, 7], [0, 1, 2, 5, 6, 7, 8], [0, 1, 2, 3, 4, 5, 6, 7, 8, 9], [0, 1, 2, 3, 4, 5, 6, 7, 8, 9, 10]] rfl (by kernel_rfl) ?_
        refine qv_v (q_move rfl) ?_
        refine qv_v (q_not rfl) ?_
        refine qv_v (q_move rfl) ?_
        refine qv_vg (rfl) (q_move rfl) ?_
        refine qv_vg (rfl) ((by first | exact q_callV Try.func11 rfl rfl rfl (fun w1 H1 => len_calls _ _ _ _ _ w1 (Reads.blk 3 rfl w1 H1)) | exact q_callV Try.func11 rfl rfl rfl (fun w1 H1 => len_calls _ _ _ _ _ w1 (Reads.blk 4 rfl w1 H1)))) ?_
        refine qv_vg (rfl) (q_move rfl) ?_
        refine qv_vg (rfl) (q_nilck rfl) ?_
        refine qv_vg (rfl) (q_fldA fo41_0 (by decide) rfl rfl) ?_
        refine qv_vg (rfl) (q_load 0 Try.underlying39 rfl rfl rfl rfl) ?_
        refine qv_vg (rfl) (q_lenS Try.underlying39 rfl) ?_
        refine qv_end ?_
        refine VL.keep (Sub.cons (s := 0) rfl (Sub.cons (s := 3) rfl (Sub.cons (s := 4) rfl (Sub.cons (s := 5) rfl (Sub.cons (s := 6) rfl (Sub.cons (s := 27) rfl (Sub.cons (s := 7) rfl (Sub.cons (s := 8) rfl (Sub.cons (s := 35) rfl (Sub.cons (s := 53) rfl (Sub.cons (s := 103) rfl (Sub.cons (s := 105) rfl (Sub.cons (s := 110) rfl (Sub.nil _)))))))))))))) ?_
        refine vl_vg rfl (q_as (v := .bool false) (q_neq_n Try.underlying3 rfl rfl) (by rw [decide_eq_true rfl]; rfl)) rfl ?_
        first | (refine vl_v (q_pickT rfl rfl) rfl ?_) | (refine vl_v (q_pickF rfl rfl) rfl ?_)
        refine vl_nil ?_
        refine (qn_n (th_n ?_))
        refine VC_no (rfl) ?_
        refine VC_skip ?_
        refine (bl_n (th_n ?_))
        refine VC_region ?_
        refine vl_v (q_move rfl) rfl ?_
        first | (refine vl_v (q_add_n (q := 1) rfl rfl (by omega)) rfl ?_) | (refine vl_v (q_add_i rfl rfl (by omega) (by omega)) rfl ?_)
        refine vl_v (q_assign rfl) rfl ?_
        refine vl_nil ?_
        refine (th_n ?_)
        refine ⟨z, hz, by show l.length - (i + 1) < l.length - i; omega, (Sub.cons (s := 0) rfl (Sub.cons (s := 3) rfl (Sub.cons (s := 4) rfl (Sub.cons (s := 5) rfl (Sub.cons (s := 6) rfl (Sub.nil _)))))), fun w H => by first | exact St.pick H (ks := [3, 4, 5, 0, 1]) (by decide) rfl | exact St.pick H (ks := [4, 5, 6, 1, 2]) (by decide) rfl | exact St.pick H (ks := [3, 4, 5, 7, 8]) (by decide) rfl⟩
      · skip
        rw [show decide (x.d = 0) = false from decide_eq_false hs54]
        refine vl_v (q_assign rfl) rfl ?_
        refine vl_nil ?_
        refine (th_n ?_)
        refine VC_no (rfl) ?_
        refine VC_region ?_
        refine vl_v (q_eql_k (q := 1) Try.underlying3 rfl rfl) rfl ?_
        by_cases hs55 : x.d = 1
        · skip
          rw [show decide (x.d = 1) = true from decide_eq_true hs55]
          refine vl_v (q_assign rfl) rfl ?_
          refine vl_nil ?_
          refine (th_n ?_)
          refine VC_yes (rfl) ?_
          have kP2 := kP.put (OpD.ent_ok hxo)
          have hPs := fun (R : List Res) w1 H1 => put_calls (S := []) (w0 := w) (w := w1) (b := b) (m := m) (o := o) (A := AS) (c := cS) (L := L) (R := R) x.ent hxo.p hxo.k hxo.n H1 hE kP.1 kP.2
          have hPd := fun (R : List Res) w1 H1 => dput_calls (S := []) (w0 := w) (w := w1) (br := b17) (c := k) (r := r) (A := B) (L := L) (R := R) x.ent hxo.p hxo.k hxo.n hr hk H1 kP.1 kP.2
          obtain ⟨Lp, hLp⟩ : ∃ z, (putR L x.ent).2 = z := ⟨_, rfl⟩
          obtain ⟨ep, hep⟩ : ∃ z, (putR L x.ent).1 = z := ⟨_, rfl⟩
          rw [hLp, hep] at hPs hPd
          rw [hLp] at kP2
          simp only [SkR, List.cons_append, List.nil_append, List.append_nil] at hPs hPd
          refine VC_drawQ 15 6 [[], [], [1], [], [3], [], [5], [0, 2, 4, 6], [], [], [9], [], [11], [], [13], [8, 10, 12, 14, 7], [7, 15], [16, 15, 0, 1, 2, 3, 4, 5, 6, 7, 8, 9, 10, 11, 12, 13, 14]] [[], [], [1], [], [3], [], [5], [0, 1, 2, 3, 4, 5, 6], [], [], [9], [], [11], [], [13], [0, 1, 2, 3, 4, 5, 6, 7, 8, 9, 10, 11, 12, 13, 14], [0, 1, 2, 3, 4, 5, 6, 7, 8, 9, 10, 11, 12, 13, 14, 15], [0, 1, 2, 3, 4, 5, 6, 7, 8, 9, 10, 11, 12, 13, 14, 15, 16]] [([], [], [], [0, 1, 2, 3, 4, 5], []), ([], [], [], [0, 1, 2, 3, 4, 5], []), ([1], [], [], [0, 1, 2, 3, 4, 5], [1]), ([], [], [], [0, 1, 2, 3, 4, 5], []), ([3], [], [], [0, 1, 2, 3, 4, 5], [3]), ([], [], [], [0, 1, 2, 3, 4, 5], []), ([5], [], [], [0, 1, 2, 3, 4, 5], [5]), ([0, 1, 2, 3, 4, 5, 6], [1, 2, 3], [], [0, 4, 5], [0, 1, 2, 3, 4, 5, 6]), ([], [], [], [0, 4, 5], []), ([], [], [], [0, 4, 5], []), ([9], [], [], [0, 4, 5], [9]), ([], [], [], [0, 4, 5], []), ([11], [], [], [0, 4, 5], [11]), ([], [], [], [0, 4, 5], []), ([13], [], [], [0, 4, 5], [13])] [0, 4, 5] [0, 1, 2, 3, 4, 5, 6, 7, 8, 9, 10, 11, 12, 13, 14] rfl rfl (by kernel_rfl) ?_
          refine qp_v (fun xs gs hx => q_move rfl) ?_
          refine qp_v (fun xs gs hx => q_fldA fo43_1 (by decide) rfl rfl) ?_
          refine qp_v (fun xs gs hx => q_loadsAt 0 Try.underlying23 rfl rfl rfl sz23 hxf.g1 lp1) ?_
          refine qp_v (fun xs gs hx => q_fldA fo43_2 (by decide) rfl rfl) ?_
          refine qp_v (fun xs gs hx => q_load 0 Try.underlying3 rfl rfl rfl hxf.g2) ?_
          refine qp_v (fun xs gs hx => q_fldA fo43_3 (by decide) rfl rfl) ?_
          refine qp_v (fun xs gs hx => q_loadsAt 0 Try.underlying23 rfl rfl rfl sz23 hxf.g3 lp3) ?_
          refine qp_callE (fun xs gs v g => v = .int .i64 ep ∧ MapOf (decS Lp g).1 (mapE Lp)) (fun xs gs v g => SkR b m (decS Lp g).1 (decS Lp g).2.1 (decS Lp g).2.2 Lp) Try.func10 rfl rfl (args := fun xs gs => [vP b 0, .agg (bys x.p).toArray, vI x.n, .agg (bys x.k).toArray]) (fun xs gs hx => rfl) (fun xs gs hx R w1 H1 => (hPs _ w1 H1).mono fun e w' h => (by obtain ⟨h1, o9, A9, c9, h2, h3⟩ := h; obtain ⟨g9, hg9⟩ := sk_ghost (A := A9) (c := c9) h2; have hg9 : decS Lp g9 = (o9, A9, c9) := hg9; refine ⟨_, g9, h1, (by intro h; cases h), ⟨rfl, ?_⟩, ?_⟩; rw [hg9]; exact h2; rw [hg9]; exact h3)) ?_
          refine qp_v (fun xs gs hx => q_move rfl) ?_
          refine qp_v (fun xs gs hx => q_fldA fo43_1 (by decide) rfl rfl) ?_
          refine qp_v (fun xs gs hx => q_loadsAt 0 Try.underlying23 rfl rfl rfl sz23 hxf.g1 lp1) ?_
          refine qp_v (fun xs gs hx => q_fldA fo43_2 (by decide) rfl rfl) ?_
          refine qp_v (fun xs gs hx => q_load 0 Try.underlying3 rfl rfl rfl hxf.g2) ?_
          refine qp_v (fun xs gs hx => q_fldA fo43_3 (by decide) rfl rfl) ?_
          refine qp_v (fun xs gs hx => q_loadsAt 0 Try.underlying23 rfl rfl rfl sz23 hxf.g3 lp3) ?_
          refine qp_end ?_
          intro xs gs hx
          obtain ⟨f63, _⟩ := hx
          simp only [selI, ownsA, List.contains_cons, List.contains_nil, Nat.reduceBEq, Nat.reduceAdd, Bool.or_false, Bool.or_true, Bool.false_or, Bool.true_or, mask, nRow, nBlk, nRowT, tupAt_0, tupAt_1, List.append_assoc, List.nil_append, List.append_nil, List.cons_append, List.singleton_append]
          obtain ⟨e63, f63⟩ := f63
          simp only [e63]
          obtain ⟨z1, hz1⟩ : ∃ z, decS Lp (gs 7) = z := ⟨_, rfl⟩
          rw [hz1] at f63 ⊢
          simp only [SkR, List.cons_append, List.nil_append, List.append_nil]
          refine VL.keep (Sub.cons (s := 0) rfl (Sub.cons (s := 3) rfl (Sub.cons (s := 4) rfl (Sub.cons (s := 5) rfl (Sub.cons (s := 6) rfl (Sub.cons (s := 27) rfl (Sub.cons (s := 7) rfl (Sub.cons (s := 8) rfl (Sub.cons (s := 35) rfl (Sub.cons (s := 53) rfl (Sub.cons (s := 63) rfl (Sub.cons (s := 64) rfl (Sub.cons (s := 66) rfl (Sub.cons (s := 68) rfl (Sub.cons (s := 70) rfl (Sub.nil _)))))))))))))))) ?_
          refine l_call (F := fun v L' => v = .int .i64 ep ∧ ∃ B' k' r', (∀ w'', r'.ok w'' → SlAt w'' B' (keptC Lp)) ∧ Lp.length ≤ k' ∧ L' = [.blk b17 41 [.slice B' Lp.length k'], r', .blk b7 43 x.cells, .blk b 49 [.map (some m), .slice z1.2.1 Lp.length z1.2.2], .obj m z1.1, .row 51 33 (.slice z1.2.1 Lp.length z1.2.2) Lp.length (ordC Lp)]) Try.func13 rfl rfl rfl (fun w1 H1 => (hPd _ w1 (St.pick H1 (ks := [1, 2, 0, 3, 4, 5]) (by decide) rfl)).mono fun e w' h => ?_) rfl ?_
          · obtain ⟨h1, B', k', r', h2, h3, h4⟩ := h
            exact ⟨_, _, h1, ⟨rfl, B', k', r', h2, h3, rfl⟩, h4⟩
          rintro v L' ⟨rfl, B', k', r', hr', hk', rfl⟩
          let z : PSt := ⟨i + 1, b, m, z1.1, z1.2.1, z1.2.2, Lp, B', k', r'⟩
          have hz : z.ok l.length := ⟨by show i + 1 ≤ l.length; omega, f63, kP2, hr', hk'⟩
          refine vl_v (q_as (v := .bool true) (q_eql_k Try.underlying28 rfl rfl) (by rw [decide_eq_true rfl])) rfl ?_
          refine vl_v (q_assign rfl) rfl ?_
          refine vl_nil ?_
          refine (qn_n (bl_n (th_n ?_)))
          refine VC_seq ?_
          refine VC_drawV 10 [[], [0], [1], [2], [3, 2], [2], [5, 2], [6, 2], [7, 2], [8, 2], [4, 9, 2], [2, 10]] [[], [0], [0, 1], [0, 1, 2], [0, 1, 2, 3], [0, 1, 2], [0, 1, 2, 5], [0, 1, 2, 5, 6], [0, 1, 2, 5, 6, 7], [0, 1, 2, 5, 6, 7, 8], [0, 1, 2, 3, 4, 5, 6, 7, 8, 9], [0, 1, 2, 3, 4, 5, 6, 7, 8, 9, 10]] rfl (by kernel_rfl) ?_
          refine qv_v (q_move rfl) ?_
          refine qv_v (q_not rfl) ?_
          refine qv_v (q_move rfl) ?_
          refine qv_vg (rfl) (q_move rfl) ?_
          refine qv_vg (rfl) ((by first | exact q_callV Try.func11 rfl rfl rfl (fun w1 H1 => len_calls _ _ _ _ _ w1 (Reads.blk 3 rfl w1 H1)) | exact q_callV Try.func11 rfl rfl rfl (fun w1 H1 => len_calls _ _ _ _ _ w1 (Reads.blk 4 rfl w1 H1)))) ?_
          refine qv_vg (rfl) (q_move rfl) ?_
          refine qv_vg (rfl) (q_nilck rfl) ?_
          refine qv_vg (rfl) (q_fldA fo41_0 (by decide) rfl rfl) ?_
          refine qv_vg (rfl) (q_load 0 Try.underlying39 rfl rfl rfl rfl) ?_
          refine qv_vg (rfl) (q_lenS Try.underlying39 rfl) ?_
          refine qv_end ?_
          refine VL.keep (Sub.cons (s := 0) rfl (Sub.cons (s := 3) rfl (Sub.cons (s := 4) rfl (Sub.cons (s := 5) rfl (Sub.cons (s := 6) rfl (Sub.cons (s := 27) rfl (Sub.cons (s := 7) rfl (Sub.cons (s := 8) rfl (Sub.cons (s := 35) rfl (Sub.cons (s := 53) rfl (Sub.cons (s := 103) rfl (Sub.cons (s := 105) rfl (Sub.cons (s := 110) rfl (Sub.nil _)))))))))))))) ?_
          refine vl_vg rfl (q_as (v := .bool false) (q_neq_n Try.underlying3 rfl rfl) (by rw [decide_eq_true rfl]; rfl)) rfl ?_
          first | (refine vl_v (q_pickT rfl rfl) rfl ?_) | (refine vl_v (q_pickF rfl rfl) rfl ?_)
          refine vl_nil ?_
          refine (qn_n (th_n ?_))
          refine VC_no (rfl) ?_
          refine VC_skip ?_
          refine (bl_n (th_n ?_))
          refine VC_region ?_
          refine vl_v (q_move rfl) rfl ?_
          first | (refine vl_v (q_add_n (q := 1) rfl rfl (by omega)) rfl ?_) | (refine vl_v (q_add_i rfl rfl (by omega) (by omega)) rfl ?_)
          refine vl_v (q_assign rfl) rfl ?_
          refine vl_nil ?_
          refine (th_n ?_)
          refine ⟨z, hz, by show l.length - (i + 1) < l.length - i; omega, (Sub.cons (s := 0) rfl (Sub.cons (s := 3) rfl (Sub.cons (s := 4) rfl (Sub.cons (s := 5) rfl (Sub.cons (s := 6) rfl (Sub.nil _)))))), fun w H => by first | exact St.pick H (ks := [3, 4, 5, 0, 1]) (by decide) rfl | exact St.pick H (ks := [4, 5, 6, 1, 2]) (by decide) rfl | exact St.pick H (ks := [3, 4, 5, 7, 8]) (by decide) rfl⟩
        · skip
          rw [show decide (x.d = 1) = false from decide_eq_false hs55]
          refine vl_v (q_assign rfl) rfl ?_
          refine vl_nil ?_
          refine (th_n ?_)
          refine VC_no (rfl) ?_
          refine VC_seq ?_
          refine VC_region ?_
          refine vl_v (q_eql_k (q := 2) Try.underlying3 rfl rfl) rfl ?_
          by_cases hs74 : x.d = 2
          · skip
            rw [show decide (x.d = 2) = true from decide_eq_true hs74]
            refine vl_v (q_assign rfl) rfl ?_
            refine vl_nil ?_
            refine (th_n ?_)
            refine VC_yes (rfl) ?_
            refine VC_seq ?_
            refine VC_region ?_
            have kP2 := kP.take (x.p, x.n)
            have hPs := fun (R : List Res) w1 H1 => take_calls (S := []) (w0 := w) (w := w1) (b := b) (m := m) (o := o) (A := AS) (c := cS) (L := L) (R := R) x.p x.n hxo.p hxo.n H1 hE kP.1 kP.2
            have hPd := fun (R : List Res) w1 H1 => dtake_calls (S := []) (w0 := w) (w := w1) (br := b17) (c := k) (r := r) (A := B) (L := L) (R := R) x.p x.n hxo.p hxo.n hr hk H1 kP.1 kP.2
            obtain ⟨Lp, hLp⟩ : ∃ z, takeR L (x.p, x.n) = z := ⟨_, rfl⟩
            obtain ⟨ak, hak⟩ : ∃ z, askR L (x.p, x.n) = z := ⟨_, rfl⟩
            have lak : ak.1.length = 32 := by rw [← hak]; exact askR_length kP.1 _
            have lbak : (bys ak.1).length = 32 := by rw [bys_length]; exact lak
            rw [hLp, hak] at hPs hPd
            rw [hLp] at kP2
            refine vl_v (q_move rfl) rfl ?_
            refine vl_v (q_fldA fo43_1 (by decide) rfl rfl) rfl ?_
            refine vl_v (q_loadsAt 0 Try.underlying23 rfl rfl rfl sz23 hxf.g1 lp1) rfl ?_
            refine vl_v (q_fldA fo43_2 (by decide) rfl rfl) rfl ?_
            refine vl_v (q_load 0 Try.underlying3 rfl rfl rfl hxf.g2) rfl ?_
            refine l_call (F := fun v L' => v = .tuple #[.agg (bys ak.1).toArray, .bool ak.2] ∧ ∃ o9 A9 c9, MapOf o9 (mapE Lp) ∧ L' = SkR b m o9 A9 c9 Lp ++ [.blk b17 41 [.slice B L.length k], r, .blk b7 43 x.cells]) Try.func12 rfl rfl rfl (fun w1 H1 => (hPs [.blk b17 41 [.slice B L.length k], r, .blk b7 43 x.cells] w1 (St.pick H1 (ks := [1, 2, 3, 4, 5, 0]) (by decide) rfl)).mono fun e w' h => ?_) rfl ?_
            · obtain ⟨h1, o9, A9, c9, h2, h4⟩ := h
              exact ⟨_, _, h1, ⟨rfl, o9, A9, c9, h2, rfl⟩, h4⟩
            rintro v L' ⟨rfl, o9, A9, c9, hE9, rfl⟩
            simp only [SkR, List.cons_append, List.nil_append, List.append_nil]
            refine vl_v (q_move rfl) rfl ?_
            refine vl_v (q_ext rfl rfl) rfl ?_
            refine vl_v (q_ext rfl rfl) rfl ?_
            refine l_allocA zr23 rfl ?_
            intro b9
            refine l_storeA 0 rfl rfl rfl sz23 (by first | with_reducible assumption | omega | (rw [bys_length, List.length_replicate]) | (show (bys (List.replicate 32 0)).length = 32; rw [bys_length, List.length_replicate]) | (simp only [List.length_append, bys_length, List.length_replicate]; rfl)) (by first | (with_reducible first | exact bys_one _ | exact u32s_one _ | exact u64s_one _ | exact i64s_one _ | exact n64s_one _ | assumption) | exact bys_one _ | exact u32s_one _ | exact u64s_one _ | exact i64s_one _ | exact one_all rfl | (refine app_one ?_ ?_ <;> first | exact bys_one _ | exact one_all rfl | (simp; done))) (by first | with_reducible assumption | omega | (rw [bys_length, List.length_replicate]) | (show (bys (List.replicate 32 0)).length = 32; rw [bys_length, List.length_replicate]) | (simp only [List.length_append, bys_length, List.length_replicate]; rfl)) ?_
            simp only [List.set_cons_zero, List.set_cons_succ]
            refine vl_v (q_assign rfl) rfl ?_
            refine vl_nil ?_
            refine (th_n ?_)
            refine VC_seq ?_
            refine VC_region ?_
            refine vl_v (q_move rfl) rfl ?_
            refine vl_v (q_fldA fo43_1 (by decide) rfl rfl) rfl ?_
            refine vl_v (q_loadsAt 6 Try.underlying23 rfl rfl rfl sz23 hxf.g1 lp1) rfl ?_
            refine vl_v (q_fldA fo43_2 (by decide) rfl rfl) rfl ?_
            refine vl_v (q_load 6 Try.underlying3 rfl rfl rfl hxf.g2) rfl ?_
            refine l_call (F := fun v L' => v = .tuple #[.agg (bys ak.1).toArray, .bool ak.2] ∧ ∃ B' k' r', (∀ w'', r'.ok w'' → SlAt w'' B' (keptC Lp)) ∧ Lp.length ≤ k' ∧ L' = [.blk b17 41 [.slice B' Lp.length k'], r', .blk b7 43 x.cells, .blk b 49 [.map (some m), .slice A9 Lp.length c9], .obj m o9, .row 51 33 (.slice A9 Lp.length c9) Lp.length (ordC Lp), .blk b9 23 (bys ak.1)]) Try.func14 rfl rfl rfl (fun w1 H1 => (hPd [.blk b7 43 x.cells, .blk b 49 [.map (some m), .slice A9 Lp.length c9], .obj m o9, .row 51 33 (.slice A9 Lp.length c9) Lp.length (ordC Lp), .blk b9 23 (bys ak.1)] w1 (St.pick H1 (ks := [4, 5, 6, 1, 2, 3, 0]) (by decide) rfl)).mono fun e w' h => ?_) rfl ?_
            · obtain ⟨h1, B', k', r', h2, h3, h4⟩ := h
              exact ⟨_, _, h1, ⟨rfl, B', k', r', h2, h3, rfl⟩, h4⟩
            rintro v L' ⟨rfl, B', k', r', hr', hk', rfl⟩
            let z : PSt := ⟨i + 1, b, m, o9, A9, c9, Lp, B', k', r'⟩
            have hz : z.ok l.length := ⟨by show i + 1 ≤ l.length; omega, hE9, kP2, hr', hk'⟩
            refine vl_v (q_move rfl) rfl ?_
            refine vl_v (q_ext rfl rfl) rfl ?_
            refine vl_v (q_ext rfl rfl) rfl ?_
            refine l_allocA zr23 rfl ?_
            intro b11
            refine l_storeA 0 rfl rfl rfl sz23 (by first | with_reducible assumption | omega | (rw [bys_length, List.length_replicate]) | (show (bys (List.replicate 32 0)).length = 32; rw [bys_length, List.length_replicate]) | (simp only [List.length_append, bys_length, List.length_replicate]; rfl)) (by first | (with_reducible first | exact bys_one _ | exact u32s_one _ | exact u64s_one _ | exact i64s_one _ | exact n64s_one _ | assumption) | exact bys_one _ | exact u32s_one _ | exact u64s_one _ | exact i64s_one _ | exact one_all rfl | (refine app_one ?_ ?_ <;> first | exact bys_one _ | exact one_all rfl | (simp; done))) (by first | with_reducible assumption | omega | (rw [bys_length, List.length_replicate]) | (show (bys (List.replicate 32 0)).length = 32; rw [bys_length, List.length_replicate]) | (simp only [List.length_append, bys_length, List.length_replicate]; rfl)) ?_
            simp only [List.set_cons_zero, List.set_cons_succ]
            refine vl_v (q_assign rfl) rfl ?_
            refine vl_nil ?_
            refine (th_n ?_)
            refine VC_region ?_
            first | (refine vl_v (q_loads 7 Try.underlying23 rfl rfl rfl sz23 (by first | with_reducible assumption | omega | (rw [bys_length, List.length_replicate]) | (show (bys (List.replicate 32 0)).length = 32; rw [bys_length, List.length_replicate]) | (simp only [List.length_append, bys_length, List.length_replicate]; rfl))) rfl ?_) | (refine vl_v (q_loadsAt 7 Try.underlying23 rfl rfl rfl sz23 (by rfl) (by first | with_reducible assumption | omega | (rw [bys_length, List.length_replicate]) | (show (bys (List.replicate 32 0)).length = 32; rw [bys_length, List.length_replicate]) | (simp only [List.length_append, bys_length, List.length_replicate]; rfl))) rfl ?_)
            first | (refine vl_v (q_loads 0 Try.underlying23 rfl rfl rfl sz23 (by first | with_reducible assumption | omega | (rw [bys_length, List.length_replicate]) | (show (bys (List.replicate 32 0)).length = 32; rw [bys_length, List.length_replicate]) | (simp only [List.length_append, bys_length, List.length_replicate]; rfl))) rfl ?_) | (refine vl_v (q_loadsAt 0 Try.underlying23 rfl rfl rfl sz23 (by rfl) (by first | with_reducible assumption | omega | (rw [bys_length, List.length_replicate]) | (show (bys (List.replicate 32 0)).length = 32; rw [bys_length, List.length_replicate]) | (simp only [List.length_append, bys_length, List.length_replicate]; rfl))) rfl ?_)
            refine vl_v (q_as (v := .bool true) (q_eqB flatKey rfl rfl (fits_bys' lak) (fits_bys' lak)) (by rw [decide_eq_true rfl])) rfl ?_
            refine vl_v (q_move rfl) rfl ?_
            refine vl_vg rfl (q_move rfl) rfl ?_
            refine vl_vg rfl (q_move rfl) rfl ?_
            refine vl_vg rfl (q_as (v := .bool true) (q_eqBo Try.underlying4 rfl rfl) (by simp)) rfl ?_
            first | (refine vl_v (q_pickT rfl rfl) rfl ?_) | (refine vl_v (q_pickF rfl rfl) rfl ?_)
            refine vl_v (q_assign rfl) rfl ?_
            refine vl_nil ?_
            refine (bl_n (th_n ?_))
            refine VC_seq ?_
            refine VC_drawV 10 [[], [0], [1], [2], [3, 2], [2], [5, 2], [6, 2], [7, 2], [8, 2], [4, 9, 2], [2, 10]] [[], [0], [0, 1], [0, 1, 2], [0, 1, 2, 3], [0, 1, 2], [0, 1, 2, 5], [0, 1, 2, 5, 6], [0, 1, 2, 5, 6, 7], [0, 1, 2, 5, 6, 7, 8], [0, 1, 2, 3, 4, 5, 6, 7, 8, 9], [0, 1, 2, 3, 4, 5, 6, 7, 8, 9, 10]] rfl (by kernel_rfl) ?_
            refine qv_v (q_move rfl) ?_
            refine qv_v (q_not rfl) ?_
            refine qv_v (q_move rfl) ?_
            refine qv_vg (rfl) (q_move rfl) ?_
            refine qv_vg (rfl) ((by first | exact q_callV Try.func11 rfl rfl rfl (fun w1 H1 => len_calls _ _ _ _ _ w1 (Reads.blk 3 rfl w1 H1)) | exact q_callV Try.func11 rfl rfl rfl (fun w1 H1 => len_calls _ _ _ _ _ w1 (Reads.blk 4 rfl w1 H1)))) ?_
            refine qv_vg (rfl) (q_move rfl) ?_
            refine qv_vg (rfl) (q_nilck rfl) ?_
            refine qv_vg (rfl) (q_fldA fo41_0 (by decide) rfl rfl) ?_
            refine qv_vg (rfl) (q_load 1 Try.underlying39 rfl rfl rfl rfl) ?_
            refine qv_vg (rfl) (q_lenS Try.underlying39 rfl) ?_
            refine qv_end ?_
            refine VL.keep (Sub.cons (s := 0) rfl (Sub.cons (s := 3) rfl (Sub.cons (s := 4) rfl (Sub.cons (s := 5) rfl (Sub.cons (s := 6) rfl (Sub.cons (s := 27) rfl (Sub.cons (s := 7) rfl (Sub.cons (s := 8) rfl (Sub.cons (s := 35) rfl (Sub.cons (s := 53) rfl (Sub.cons (s := 73) rfl (Sub.cons (s := 9) rfl (Sub.cons (s := 10) rfl (Sub.cons (s := 11) rfl (Sub.cons (s := 12) rfl (Sub.cons (s := 103) rfl (Sub.cons (s := 105) rfl (Sub.cons (s := 110) rfl (Sub.nil _))))))))))))))))))) ?_
            refine vl_vg rfl (q_as (v := .bool false) (q_neq_n Try.underlying3 rfl rfl) (by rw [decide_eq_true rfl]; rfl)) rfl ?_
            first | (refine vl_v (q_pickT rfl rfl) rfl ?_) | (refine vl_v (q_pickF rfl rfl) rfl ?_)
            refine vl_nil ?_
            refine (qn_n (th_n ?_))
            refine VC_no (rfl) ?_
            refine VC_skip ?_
            refine (bl_n (th_n ?_))
            refine VC_region ?_
            refine vl_v (q_move rfl) rfl ?_
            first | (refine vl_v (q_add_n (q := 1) rfl rfl (by omega)) rfl ?_) | (refine vl_v (q_add_i rfl rfl (by omega) (by omega)) rfl ?_)
            refine vl_v (q_assign rfl) rfl ?_
            refine vl_nil ?_
            refine (th_n ?_)
            refine ⟨z, hz, by show l.length - (i + 1) < l.length - i; omega, (Sub.cons (s := 0) rfl (Sub.cons (s := 3) rfl (Sub.cons (s := 4) rfl (Sub.cons (s := 5) rfl (Sub.cons (s := 6) rfl (Sub.nil _)))))), fun w H => by first | exact St.pick H (ks := [3, 4, 5, 0, 1]) (by decide) rfl | exact St.pick H (ks := [4, 5, 6, 1, 2]) (by decide) rfl | exact St.pick H (ks := [3, 4, 5, 7, 8]) (by decide) rfl⟩
          · skip
            rw [show decide (x.d = 2) = false from decide_eq_false hs74]
            refine vl_v (q_assign rfl) rfl ?_
            refine vl_nil ?_
            refine (th_n ?_)
            refine VC_no (rfl) ?_
            refine VC_seq ?_
            refine VC_region ?_
            refine vl_v (q_move rfl) rfl ?_
            refine l_call (F := fun v L' => ∃ bC mC oC AC cC, v = vP bC 0 ∧ MapOf oC (mapE L) ∧ L' = SkR bC mC oC AC cC L ++ [.blk b7 43 x.cells, .blk b 49 [.map (some m), .slice AS L.length cS], .obj m o, .row 51 33 (.slice AS L.length cS) L.length (ordC L), .blk b17 41 [.slice B L.length k], r]) Try.func15 rfl rfl rfl (fun w1 H1 => (copy_calls b m o AS cS L hE kP.1 (by have := kP.2; omega) w1 (Reads.blk 1 rfl w1 H1) (H1.get (k := 2) rfl) (Reads.row 3 rfl w1 H1)).mono fun e w' h => ?_) rfl ?_
            · obtain ⟨bC, mC, h1, oC, AC, cC, hE, h2⟩ := h
              rw [List.append_nil] at h2
              exact ⟨_, _, h1, ⟨bC, mC, oC, AC, cC, rfl, hE, rfl⟩, (H1.join h2).perm List.perm_append_comm⟩
            rintro v L' ⟨bC, mC, oC, AC, cC, rfl, hEC, rfl⟩
            simp only [SkR, List.cons_append, List.nil_append, List.append_nil]
            refine vl_v (q_assign rfl) rfl ?_
            refine vl_nil ?_
            refine (th_n ?_)
            refine VC_seq ?_
            refine VC_seq ?_
            refine VC_region ?_
            refine vl_v (q_move rfl) rfl ?_
            refine vl_v (q_eqPN Try.underlying26 rfl rfl) rfl ?_
            refine vl_nil ?_
            refine (th_n ?_)
            refine VC_no (rfl) ?_
            refine VC_skip ?_
            refine (th_n ?_)
            refine VC_seq ?_
            refine VC_region ?_
            have w77 : (Lit.int .i64 77).wf = true := by decide
            have kP2 := kP.put (e := ⟨x.p, 77, x.k⟩) ⟨hxo.p, hxo.k, w77⟩
            have hPs := fun (R : List Res) w1 H1 => put_calls (S := []) (w0 := w) (w := w1) (b := b) (m := m) (o := o) (A := AS) (c := cS) (L := L) (R := R) ⟨x.p, 77, x.k⟩ hxo.p hxo.k w77 H1 hE kP.1 kP.2
            obtain ⟨Lp, hLp⟩ : ∃ z, (putR L ⟨x.p, 77, x.k⟩).2 = z := ⟨_, rfl⟩
            obtain ⟨ep, hep⟩ : ∃ z, (putR L ⟨x.p, 77, x.k⟩).1 = z := ⟨_, rfl⟩
            rw [hLp, hep] at hPs
            rw [hLp] at kP2
            refine vl_v (q_move rfl) rfl ?_
            refine vl_v (q_fldA fo43_1 (by decide) rfl rfl) rfl ?_
            refine vl_v (q_loadsAt 3 Try.underlying23 rfl rfl rfl sz23 hxf.g1 lp1) rfl ?_
            refine vl_v (q_fldA fo43_3 (by decide) rfl rfl) rfl ?_
            refine vl_v (q_loadsAt 3 Try.underlying23 rfl rfl rfl sz23 hxf.g3 lp3) rfl ?_
            refine l_call (F := fun v L' => v = .int .i64 ep ∧ ∃ o9 A9 c9, MapOf o9 (mapE Lp) ∧ L' = SkR b m o9 A9 c9 Lp ++ [.blk bC 49 [.map (some mC), .slice AC L.length cC], .obj mC oC, .row 51 33 (.slice AC L.length cC) L.length (ordC L), .blk b7 43 x.cells, .blk b17 41 [.slice B L.length k], r]) Try.func10 rfl rfl rfl (fun w1 H1 => (hPs [.blk bC 49 [.map (some mC), .slice AC L.length cC], .obj mC oC, .row 51 33 (.slice AC L.length cC) L.length (ordC L), .blk b7 43 x.cells, .blk b17 41 [.slice B L.length k], r] w1 (St.pick H1 (ks := [4, 5, 6, 0, 1, 2, 3, 7, 8]) (by decide) rfl)).mono fun e w' h => ?_) rfl ?_
            · obtain ⟨h1, o9, A9, c9, h2, h4⟩ := h
              exact ⟨_, _, h1, ⟨rfl, o9, A9, c9, h2, rfl⟩, h4⟩
            rintro v L' ⟨rfl, o9, A9, c9, hE9, rfl⟩
            simp only [SkR, List.cons_append, List.nil_append, List.append_nil]
            refine vl_nil ?_
            refine (th_n ?_)
            refine VC_seq ?_
            refine VC_region ?_
            have hPt := fun (R : List Res) w1 H1 => take_calls (S := []) (w0 := w) (w := w1) (b := b) (m := m) (o := o9) (A := A9) (c := c9) (L := Lp) (R := R) x.p x.n hxo.p hxo.n H1 hE9 kP2.1 kP2.2
            obtain ⟨Lq, hLq⟩ : ∃ z, takeR Lp (x.p, x.n) = z := ⟨_, rfl⟩
            obtain ⟨ak, hak⟩ : ∃ z, askR Lp (x.p, x.n) = z := ⟨_, rfl⟩
            rw [hLq, hak] at hPt
            refine vl_v (q_move rfl) rfl ?_
            refine vl_v (q_fldA fo43_1 (by decide) rfl rfl) rfl ?_
            refine vl_v (q_loadsAt 6 Try.underlying23 rfl rfl rfl sz23 hxf.g1 lp1) rfl ?_
            refine vl_v (q_fldA fo43_2 (by decide) rfl rfl) rfl ?_
            refine vl_v (q_load 6 Try.underlying3 rfl rfl rfl hxf.g2) rfl ?_
            refine l_call (F := fun v L' => v = .tuple #[.agg (bys ak.1).toArray, .bool ak.2] ∧ ∃ o8 A8 c8, L' = SkR b m o8 A8 c8 Lq ++ [.blk bC 49 [.map (some mC), .slice AC L.length cC], .obj mC oC, .row 51 33 (.slice AC L.length cC) L.length (ordC L), .blk b7 43 x.cells, .blk b17 41 [.slice B L.length k], r]) Try.func12 rfl rfl rfl (fun w1 H1 => (hPt [.blk bC 49 [.map (some mC), .slice AC L.length cC], .obj mC oC, .row 51 33 (.slice AC L.length cC) L.length (ordC L), .blk b7 43 x.cells, .blk b17 41 [.slice B L.length k], r] w1 H1).mono fun e w' h => ?_) rfl ?_
            · obtain ⟨h1, o8, A8, c8, h2, h4⟩ := h
              exact ⟨_, _, h1, ⟨rfl, o8, A8, c8, rfl⟩, h4⟩
            rintro v L' ⟨rfl, o8, A8, c8, rfl⟩
            simp only [SkR, List.cons_append, List.nil_append, List.append_nil]
            let z : PSt := ⟨i + 1, bC, mC, oC, AC, cC, L, B, k, r⟩
            have hz : z.ok l.length := ⟨by show i + 1 ≤ l.length; omega, hEC, kP, hr, hk⟩
            refine vl_nil ?_
            refine (th_n ?_)
            refine VC_region ?_
            refine vl_v (q_move rfl) rfl ?_
            refine vl_v (q_assign rfl) rfl ?_
            refine vl_nil ?_
            refine (bl_n (th_n ?_))
            refine VC_seq ?_
            refine VC_drawV 10 [[], [0], [1], [2], [3, 2], [2], [5, 2], [6, 2], [7, 2], [8, 2], [4, 9, 2], [2, 10]] [[], [0], [0, 1], [0, 1, 2], [0, 1, 2, 3], [0, 1, 2], [0, 1, 2, 5], [0, 1, 2, 5, 6], [0, 1, 2, 5, 6, 7], [0, 1, 2, 5, 6, 7, 8], [0, 1, 2, 3, 4, 5, 6, 7, 8, 9], [0, 1, 2, 3, 4, 5, 6, 7, 8, 9, 10]] rfl (by kernel_rfl) ?_
            refine qv_v (q_move rfl) ?_
            refine qv_v (q_not rfl) ?_
            refine qv_v (q_move rfl) ?_
            refine qv_vg (rfl) (q_move rfl) ?_
            refine qv_vg (rfl) ((by first | exact q_callV Try.func11 rfl rfl rfl (fun w1 H1 => len_calls _ _ _ _ _ w1 (Reads.blk 3 rfl w1 H1)) | exact q_callV Try.func11 rfl rfl rfl (fun w1 H1 => len_calls _ _ _ _ _ w1 (Reads.blk 4 rfl w1 H1)))) ?_
            refine qv_vg (rfl) (q_move rfl) ?_
            refine qv_vg (rfl) (q_nilck rfl) ?_
            refine qv_vg (rfl) (q_fldA fo41_0 (by decide) rfl rfl) ?_
            refine qv_vg (rfl) (q_load 7 Try.underlying39 rfl rfl rfl rfl) ?_
            refine qv_vg (rfl) (q_lenS Try.underlying39 rfl) ?_
            refine qv_end ?_
            refine VL.keep (Sub.cons (s := 0) rfl (Sub.cons (s := 3) rfl (Sub.cons (s := 4) rfl (Sub.cons (s := 5) rfl (Sub.cons (s := 6) rfl (Sub.cons (s := 27) rfl (Sub.cons (s := 7) rfl (Sub.cons (s := 8) rfl (Sub.cons (s := 35) rfl (Sub.cons (s := 53) rfl (Sub.cons (s := 73) rfl (Sub.cons (s := 13) rfl (Sub.cons (s := 39) rfl (Sub.cons (s := 103) rfl (Sub.cons (s := 105) rfl (Sub.cons (s := 110) rfl (Sub.nil _))))))))))))))))) ?_
            refine vl_vg rfl (q_as (v := .bool false) (q_neq_n Try.underlying3 rfl rfl) (by rw [decide_eq_true rfl]; rfl)) rfl ?_
            first | (refine vl_v (q_pickT rfl rfl) rfl ?_) | (refine vl_v (q_pickF rfl rfl) rfl ?_)
            refine vl_nil ?_
            refine (qn_n (th_n ?_))
            refine VC_no (rfl) ?_
            refine VC_skip ?_
            refine (bl_n (th_n ?_))
            refine VC_region ?_
            refine vl_v (q_move rfl) rfl ?_
            first | (refine vl_v (q_add_n (q := 1) rfl rfl (by omega)) rfl ?_) | (refine vl_v (q_add_i rfl rfl (by omega) (by omega)) rfl ?_)
            refine vl_v (q_assign rfl) rfl ?_
            refine vl_nil ?_
            refine (th_n ?_)
            refine ⟨z, hz, by show l.length - (i + 1) < l.length - i; omega, (Sub.cons (s := 0) rfl (Sub.cons (s := 3) rfl (Sub.cons (s := 4) rfl (Sub.cons (s := 5) rfl (Sub.cons (s := 6) rfl (Sub.nil _)))))), fun w H => by first | exact St.pick H (ks := [3, 4, 5, 0, 1]) (by decide) rfl | exact St.pick H (ks := [4, 5, 6, 1, 2]) (by decide) rfl | exact St.pick H (ks := [3, 4, 5, 7, 8]) (by decide) rfl⟩
    · skip
      refine VC_exit ?_
      refine (th_x (th_x (bl_xs (th_n ?_))))
      refine VC_seq ?_
      refine VC_region ?_
      refine vl_v (q_move rfl) rfl ?_
      refine vl_v (q_assign rfl) rfl ?_
      refine vl_nil ?_
      refine (th_n ?_)
      refine VC_ret ?_
      refine ⟨_, res1 rfl rfl, ?_⟩
      exact rfl
  · skip
    rw [show decide (i < l.length) = false from decide_eq_false hs23]
    refine vl_v (q_move rfl) rfl ?_
    refine vl_skip rfl rfl ?_
    refine vl_skip rfl rfl ?_
    first | (refine vl_v (q_pickT rfl rfl) rfl ?_) | (refine vl_v (q_pickF rfl rfl) rfl ?_)
    refine vl_nil ?_
    refine (th_n ?_)
    refine VC_no (rfl) ?_
    refine VC_exit ?_
    refine (th_x (th_x (bl_xs (th_n ?_))))
    refine VC_seq ?_
    refine VC_region ?_
    refine vl_v (q_move rfl) rfl ?_
    refine vl_v (q_assign rfl) rfl ?_
    refine vl_nil ?_
    refine (th_n ?_)
    refine VC_ret ?_
    refine ⟨_, res1 rfl rfl, ?_⟩
    exact rfl
theorem skipsPlays.walk (w : World) (v0 : Value) (l : List OpD) (h0 : OpsV w v0 l) :
    Calls Try.prog 6 #[v0] w fun e w' => e = .returned (.bool true) ∧ Kept [] w w' := by
  obtain ⟨A, c, rfl, hc, hA, hlo⟩ := h0
  exact plays_all w l A c hc hA hlo

namespace skipsPlays
open Go.ChangeShapes Go.WideShapes Go.ChangeAt Go.RowKit
theorem own : ownKnob Try.prog.godebug = none := by kernel_rfl
theorem laidOut : laidOutB Try.prog = true := by kernel_rfl
set_option maxRecDepth 100000 in
theorem lifted (os : Os) (started : os.Started) (H : Type) (enc : TypeId × Value → H) :
    ReturnsInHanded {} Try.checked os 6 .any (Rows.skipsPlaysSpec.pre6 enc Try.prog Try.f6 Rows.skipsPlaysRow.domain false) (Rows.skipsPlaysSpec.post enc Try.prog Try.f6 false true false false) := by
  refine returnsInHanded_of_change (C := Try.checked) own started (by kernel_rfl) Try.func6
    (ChangeSpec.witness6 (enc := enc) (C := Try.checked) false ⟨#[], #[(.slice none 0 0)], []⟩ 8 (by kernel_rfl) (by kernel_rfl) (by kernel_rfl) (by kernel_rfl)) ?_
  intro W base args ds gs before hval0 hW hcnd _
  have hval : ∀ (j : Nat) t v, Try.f6.params[j]? = some t → args[j]? = some v → Value.okWide Try.prog W .any base t v := hval0
  have hW' := hW
  obtain ⟨p, q, hA0, hV, rfl, hfz, hnd⟩ := hW
  have hA : DataW.TrodAll enc Try.prog W 0 (fun _ => true) true Try.f6.params.toList args.toList ds p := hA0
  rw [Try.params6] at hA hval
  obtain ⟨v0, vs0, d0, ds0, p0, q0, hargs, rfl, rfl, h0, r0⟩ := trodAll_cons hA
  obtain ⟨rfl, rfl, rfl⟩ := trodAll_nil r0
  obtain rfl : args = #[v0] := by cases args; simp_all
  obtain ⟨rfl, rfl⟩ := trodVars_none hV
  have k0 := h0
  have lt0 : ∀ x ∈ p0, x.block < W.heap.size := by obtain ⟨m, hm⟩ := k0; exact DataW.trod_lt m _ _ _ hm
  obtain ⟨l0, g0⟩ := open_ops (hval 0 37 v0 rfl rfl) h0
  clear hA0 hval0
  refine (skipsPlays.walk W v0 l0 g0).mono fun e W' ⟨he, hK⟩ => ?_
  subst he
  have bel := hK.below
  exact ⟨_, rfl, _, _, _, [], _, [], hW', trodAll_mk1 (shut_bool Try.underlying4 _), (trodAll_cons_mk (Below.trod laidOut (by kernel_rfl) (of_decide_eq_true (by kernel_rfl)) k0 bel lt0) trodAll_mk0), rfl, bel.frame _, fun h => by cases h⟩
theorem over : Rows.skipsPlaysRow.holds Try.pinned (OpenSpec.ofChange Rows.skipsPlaysSpec) :=
  OpenClaim.holds_of_wide 6 Try.f6 rfl rfl rfl rfl rfl rfl rfl ⟨rfl, rfl, rfl, rfl, rfl⟩ rfl rfl rfl rfl rfl (by kernel_rfl) Try.func6 (by kernel_rfl)
    (of_decide_eq_true (by kernel_rfl)) (by unfold Func.isWrapper; first | (rw [if_pos (by decide +kernel)]; kernel_rfl) | (rw [if_neg (by decide +kernel)]; exact ⟨rfl, rfl⟩))
    (fun os started H enc _ => lifted os started H enc)
theorem proved : Rows.SkipsPlaysSaid := over
end skipsPlays
/-- The row. -/
theorem skipsPlays_holds : Rows.SkipsPlaysSaid := skipsPlays.proved
#print axioms skipsPlays_holds
end Go.Proofs.Ytngdppffcdhhlaa
