/- What is handed in is not kept, and what is told is not shared: the statement MailboxOwn. No condition. -/
import Derived.Test.YtadaihpeionniaaRows
import Derived.Test.YtadaihpeionniaaQ19wc
namespace Go.Proofs.Ytadaihpeionniaa
open Go Go.RowKit Go.PBYtadaihpeionniaa
set_option linter.unusedVariables false
set_option linter.unusedSimpArgs false
set_option maxRecDepth 10000

theorem mvP (X G : List Res) (r s : Res) : ((X ++ G) ++ [r, s]).Perm ((s :: r :: X) ++ G) := by
  have h1 : ((X ++ G) ++ [r, s]).Perm ([r, s] ++ (X ++ G)) := List.perm_append_comm
  exact h1.trans (List.Perm.swap s r (X ++ G))
theorem list1_calls {w0 w : World} {b c : Nat} {A : Option Addr} {m : Mm} {x : Pl} {X G : List Res} (hm : Mm.okb m) (hF : Fresh G [] [(m, x)]) (H : St [] w0 (X ++ G) w) (hS : SlAt w (some ⟨b, 0, none⟩) [.slice A 1 c, vN 1]) (hA : SlAt w A (mailsC [(m, x)])) :
    Calls Try.prog 14 #[vP b 0] w fun e w' => ∃ z x1 : Pl, e = .returned (.slice z.1 1 z.2) ∧ St [] w0 ((bodyR 5 m.X.body x1 :: .row 52 138 (.slice z.1 1 z.2) 1 (mailsC [(m, x1)]) :: X) ++ G) w' := by
  refine (list_calls w b c 1 A [(m, x)] (fun y hy => by rw [List.mem_singleton.1 hy]; exact hm.1) (fun y hy => by rw [List.mem_singleton.1 hy]; exact hm.2) (by simp) hS hA (fun y hy => ?_)).mono fun e w' h => ?_
  · rcases hF w (fun r hr => H.ok r (List.mem_append_right _ hr)) y hy with h | h
    · cases h
    · exact h
  · obtain ⟨⟨z, zs⟩, h1, h2, h3⟩ := h
    obtain ⟨x1, rfl⟩ := mids_one h2
    exact ⟨z, x1, h1, (H.join h3).perm (mvP X G _ _)⟩
set_option maxHeartbeats 16000000 in
theorem mown_all (w : World) (l : List UInt8) (A : Option Addr) (c : Nat) (a : Int) (hw : (Lit.int .i64 a).wf = true) (hc : l.length ≤ c) (hA : SlAt w A (bys l)) :
    Calls Try.prog 5 #[.slice A l.length c, vI a] w fun e w' => e = .returned (.bool true) ∧ Kept [] w w' := by
  refine enter (n := 107) (R := fun e L => e = .returned (.bool true)) [.slice A l.length c, vI a] Try.func5 rfl rfl rfl (St.refl w) ?_ (fun e w' L' h H => ⟨h, H.kept⟩)
  refine VC_seq ?_
  refine VC_region ?_
  refine vl_v (q_assign rfl) rfl ?_
  refine vl_nil ?_
  refine (th_n ?_)
  refine VC_seq ?_
  refine VC_region ?_
  refine vl_v (q_callV Try.func7 rfl rfl rfl (fun w1 H1 => awake19_calls w1)) rfl ?_
  refine vl_v (q_assign rfl) rfl ?_
  refine vl_nil ?_
  refine (th_n ?_)
  refine VC_seq ?_
  refine VC_region ?_
  refine l_callG Try.func8 rfl rfl rfl (fun w1 H1 => new_calls w1) rfl ?_
  intro x13
  refine vl_v (q_assign rfl) rfl ?_
  refine vl_nil ?_
  refine (th_n ?_)
  refine VC_seq ?_
  refine VC_seq ?_
  refine VC_region ?_
  refine vl_v (q_move rfl) rfl ?_
  refine vl_v (q_eqPN Try.underlying24 rfl rfl) rfl ?_
  refine vl_v (q_move rfl) rfl ?_
  refine vl_vg rfl (q_move rfl) rfl ?_
  refine vl_vg rfl (q_lenS Try.underlying34 rfl) rfl ?_
  refine vl_vg rfl (q_eql_n (q := 0) Try.underlying3 rfl rfl) rfl ?_
  by_cases hs19 : l.length = 0
  · skip
    rw [show decide (l.length = 0) = true from decide_eq_true hs19]
    first | (refine vl_v (q_pickT rfl rfl) rfl ?_) | (refine vl_v (q_pickF rfl rfl) rfl ?_)
    refine vl_v (q_move rfl) rfl ?_
    refine vl_skip rfl rfl ?_
    refine vl_skip rfl rfl ?_
    refine vl_skip rfl rfl ?_
    first | (refine vl_v (q_pickT rfl rfl) rfl ?_) | (refine vl_v (q_pickF rfl rfl) rfl ?_)
    refine vl_v (q_move rfl) rfl ?_
    refine vl_skip rfl rfl ?_
    refine vl_skip rfl rfl ?_
    first | (refine vl_v (q_pickT rfl rfl) rfl ?_) | (refine vl_v (q_pickF rfl rfl) rfl ?_)
    refine vl_nil ?_
    refine (th_n ?_)
    refine VC_yes (rfl) ?_
    refine VC_seq ?_
    refine VC_region ?_
    refine vl_v (q_move rfl) rfl ?_
    refine vl_v (q_move rfl) rfl ?_
    refine vl_vg rfl (q_move rfl) rfl ?_
    refine vl_vg rfl (q_nePN Try.underlying24 rfl rfl) rfl ?_
    first | (refine vl_v (q_pickT rfl rfl) rfl ?_) | (refine vl_v (q_pickF rfl rfl) rfl ?_)
    refine vl_v (q_assign rfl) rfl ?_
    refine vl_nil ?_
    refine (th_n ?_)
    refine VC_ret ?_
    refine (th_r ?_)
    refine ⟨_, res1 rfl rfl, ?_⟩
    exact rfl
  · skip
    rw [show decide (l.length = 0) = false from decide_eq_false hs19]
    first | (refine vl_v (q_pickT rfl rfl) rfl ?_) | (refine vl_v (q_pickF rfl rfl) rfl ?_)
    refine vl_v (q_move rfl) rfl ?_
    refine vl_vg rfl (q_move rfl) rfl ?_
    refine vl_vg rfl (q_lenS Try.underlying34 rfl) rfl ?_
    refine vl_vg rfl (q_gtr_n (q := 500) Try.underlying3 rfl rfl) rfl ?_
    by_cases hs24 : 500 < l.length
    · skip
      rw [show decide (500 < l.length) = true from decide_eq_true hs24]
      first | (refine vl_v (q_pickT rfl rfl) rfl ?_) | (refine vl_v (q_pickF rfl rfl) rfl ?_)
      refine vl_v (q_move rfl) rfl ?_
      refine vl_skip rfl rfl ?_
      refine vl_skip rfl rfl ?_
      first | (refine vl_v (q_pickT rfl rfl) rfl ?_) | (refine vl_v (q_pickF rfl rfl) rfl ?_)
      refine vl_nil ?_
      refine (th_n ?_)
      refine VC_yes (rfl) ?_
      refine VC_seq ?_
      refine VC_region ?_
      refine vl_v (q_move rfl) rfl ?_
      refine vl_v (q_move rfl) rfl ?_
      refine vl_vg rfl (q_move rfl) rfl ?_
      refine vl_vg rfl (q_nePN Try.underlying24 rfl rfl) rfl ?_
      first | (refine vl_v (q_pickT rfl rfl) rfl ?_) | (refine vl_v (q_pickF rfl rfl) rfl ?_)
      refine vl_v (q_assign rfl) rfl ?_
      refine vl_nil ?_
      refine (th_n ?_)
      refine VC_ret ?_
      refine (th_r ?_)
      refine ⟨_, res1 rfl rfl, ?_⟩
      exact rfl
    · skip
      rw [show decide (500 < l.length) = false from decide_eq_false hs24]
      first | (refine vl_v (q_pickT rfl rfl) rfl ?_) | (refine vl_v (q_pickF rfl rfl) rfl ?_)
      refine vl_v (q_move rfl) rfl ?_
      refine vl_vg rfl (q_move rfl) rfl ?_
      refine vl_vg rfl (q_lss_k (q := 0) Try.underlying3 rfl rfl) rfl ?_
      by_cases hs28 : a < 0
      · skip
        rw [show decide (a < 0) = true from decide_eq_true hs28]
        first | (refine vl_v (q_pickT rfl rfl) rfl ?_) | (refine vl_v (q_pickF rfl rfl) rfl ?_)
        refine vl_nil ?_
        refine (th_n ?_)
        refine VC_yes (rfl) ?_
        refine VC_seq ?_
        refine VC_region ?_
        refine vl_v (q_move rfl) rfl ?_
        refine vl_v (q_move rfl) rfl ?_
        refine vl_vg rfl (q_move rfl) rfl ?_
        refine vl_vg rfl (q_nePN Try.underlying24 rfl rfl) rfl ?_
        first | (refine vl_v (q_pickT rfl rfl) rfl ?_) | (refine vl_v (q_pickF rfl rfl) rfl ?_)
        refine vl_v (q_assign rfl) rfl ?_
        refine vl_nil ?_
        refine (th_n ?_)
        refine VC_ret ?_
        refine (th_r ?_)
        refine ⟨_, res1 rfl rfl, ?_⟩
        exact rfl
      · skip
        rw [show decide (a < 0) = false from decide_eq_false hs28]
        first | (refine vl_v (q_pickT rfl rfl) rfl ?_) | (refine vl_v (q_pickF rfl rfl) rfl ?_)
        refine vl_nil ?_
        refine (th_n ?_)
        refine VC_no (rfl) ?_
        refine VC_skip ?_
        refine (th_n ?_)
        refine VC_seq ?_
        refine VC_region ?_
        have hw := wf_i64 hw
        obtain ⟨n, rfl⟩ := Int.eq_ofNat_of_zero_le (show 0 ≤ a by omega)
        refine l_litA (cs := bys []) Try.underlying34 in5 (by decide) rfl rfl rfl rfl (by first | (with_reducible first | exact bys_one _ | exact u32s_one _ | exact u64s_one _ | exact i64s_one _ | exact n64s_one _ | assumption) | exact bys_one _ | exact u32s_one _ | exact u64s_one _ | exact i64s_one _ | exact one_all rfl | (refine app_one ?_ ?_ <;> first | exact bys_one _ | exact one_all rfl | (simp; done))) rfl rfl ?_
        intro b35
        refine vl_v (q_move rfl) rfl ?_
        refine l_append 0 rfl rfl rfl Try.underlying34 Try.underlying34 in5 rfl (by decide) (Reads.old hA) (by first | omega | with_reducible assumption | (simp only [zb, zu, zw, zi, za]; omega) | (simp only [zs, zr, zm, za, zb, zu, zw, zi, zt, zd, zc, zn, *] <;> first | done | omega) | rfl) (by first | (with_reducible first | exact bys_one _ | exact u32s_one _ | exact u64s_one _ | exact i64s_one _ | exact n64s_one _ | assumption) | exact bys_one _ | exact u32s_one _ | exact u64s_one _ | exact i64s_one _ | exact one_all rfl | (refine app_one ?_ ?_ <;> first | exact bys_one _ | exact one_all rfl | (simp; done))) (by first | omega | with_reducible assumption | (simp only [zb, zu, zw, zi, za]; omega) | (simp only [zs, zr, zm, za, zb, zu, zw, zi, zt, zd, zc, zn, *] <;> first | done | omega) | rfl) (by first | omega | with_reducible assumption | (simp only [zb, zu, zw, zi, za]; omega) | (simp only [zs, zr, zm, za, zb, zu, zw, zi, zt, zd, zc, zn, *] <;> first | done | omega) | rfl) rfl ?_
        intro A37 c37 hc37
        simp only [List.set_cons_zero, List.set_cons_succ, ← bys_append, ← u32s_append, ← u64s_append, ← i64s_append, List.nil_append, Nat.zero_add]
        refine vl_v (q_assign rfl) rfl ?_
        refine vl_nil ?_
        refine (th_n ?_)
        refine VC_seq ?_
        refine VC_region ?_
        have hE : enR (X19f 0 0 l) = true := enR_f (by omega) (by omega) (by omega)
        obtain ⟨m, hm0⟩ : ∃ m : Mm, m = ⟨((0 + 1 : Nat) : Int), X19f 0 0 l, s19f 0⟩ := ⟨_, rfl⟩
        have hmo : Mm.okb m := by rw [hm0]; exact okb_f (by omega) _
        have hmb : m.X.body = l := by rw [hm0]; rfl
        have hPut := fun (R : List Res) w1 H1 hR => put_gen (S := []) (w0 := w) (w1 := w1) (b := x13) (c := 0) (many := 0) (A := none) (ms := []) (R := R) (X19f 0 0 l) (s19f 0) A37 c37 z19_length z19_length ⟨z19_length, z19_length⟩ (by simp) (by omega) (by show l.length ≤ 1000; omega) H1 hR
        rw [show mids ([] : List (Mm × Pl)) = [] from rfl, put_kept19 hE (by simp), ← hm0] at hPut
        refine vl_v (q_move rfl) rfl ?_
        refine vl_v (q_move rfl) rfl ?_
        refine vl_v (q_build (c' := envOf (X19f 0 0 l) (A37, c37)) rfl (by kernel_rfl)) rfl ?_
        refine vl_v (q_build (c' := stC (s19f 0)) rfl (by kernel_rfl)) rfl ?_
        refine l_call (F := fun v L' => ∃ A' c' x N, v = .tuple #[vN 1, vN 0] ∧ Fresh N [] [(m, x)] ∧ L' = [.row 5 1 (.slice A37 l.length c37) l.length (bys l), .blk x13 57 [.slice A' 1 c', vN 1], .row 52 138 (.slice A' 1 c') 1 (mailsC [(m, x)])] ++ N) Try.func9 rfl rfl rfl (fun w1 H1 => ?_) rfl ?_
        · have H2 := St.pick H1 (ks := [1, 2, 0]) (by decide) rfl
          refine (hPut [.row 5 1 (.slice A37 l.length c37) l.length (bys l)] w1 H2 (fun L => Reads.rest (.row 5 1 (.slice A37 l.length c37) l.length (bys l)) List.mem_cons_self (fun w' h => Row.sl h) H2)).mono fun e w' h => ?_
          obtain ⟨A', c', ms', N, h1, h2, h3, h4⟩ := h
          obtain ⟨x, rfl⟩ := mids_one h2
          refine ⟨_, _, h1, ⟨A', c', x, N, rfl, h3, rfl⟩, h4.perm ?_⟩
          have hp : ((BoxR x13 A' c' [(m, x)] 1 ++ N) ++ [Res.row 5 1 (.slice A37 l.length c37) l.length (bys l)]).Perm ([Res.row 5 1 (.slice A37 l.length c37) l.length (bys l)] ++ (BoxR x13 A' c' [(m, x)] 1 ++ N)) := List.perm_append_comm
          rw [List.append_assoc] at hp
          exact hp
        rintro v L' ⟨A1, c1, x, N, rfl, hF, rfl⟩
        simp only [List.cons_append, List.nil_append]
        refine vl_v (q_move rfl) rfl ?_
        refine vl_v (q_ext rfl rfl) rfl ?_
        refine vl_v (q_ext rfl rfl) rfl ?_
        refine vl_v (q_assign rfl) rfl ?_
        refine vl_v (q_assign rfl) rfl ?_
        refine vl_nil ?_
        refine (th_n ?_)
        refine VC_seq ?_
        obtain ⟨j, hj⟩ : ∃ j, j = n % l.length := ⟨_, rfl⟩
        have hjl : j < l.length := hj ▸ Nat.mod_lt _ (by omega)
        refine VC_rowBlk (by omega) (fun bC more hA37 => ?_)
        subst hA37
        refine VC_region ?_
        refine vl_v (q_move rfl) rfl ?_
        refine vl_v (q_move rfl) rfl ?_
        refine vl_v (q_move rfl) rfl ?_
        refine vl_v (q_lenS Try.underlying34 rfl) rfl ?_
        refine vl_v (q_rem_n rfl rfl (by omega)) rfl ?_
        rw [← hj]
        refine vl_v (q_idxS0 Try.underlying34 sz5 rfl rfl (by omega) (by rw [Nat.mul_one, Nat.zero_add])) rfl ?_
        first | (refine vl_v (q_load 0 Try.underlying5 rfl rfl rfl (bys_atA (by first | omega | with_reducible assumption | (simp only [zb, zu, zw, zi, za]; omega) | (simp only [zs, zr, zm, za, zb, zu, zw, zi, zt, zd, zc, zn, *] <;> first | done | omega) | rfl))) rfl ?_) | (refine vl_v (q_load 0 Try.underlying5 rfl rfl rfl rfl) rfl ?_)
        refine vl_v (q_xor_u8 (q := UInt8.ofNat 1) rfl rfl) rfl ?_
        refine vl_v (q_idxS0 Try.underlying34 sz5 rfl rfl (by omega) (by rw [Nat.mul_one, Nat.zero_add])) rfl ?_
        first | (refine l_stBA 0 rfl rfl rfl sz5 (by first | omega | with_reducible assumption | (simp only [zb, zu, zw, zi, za]; omega) | (simp only [zs, zr, zm, za, zb, zu, zw, zi, zt, zd, zc, zn, *] <;> first | done | omega) | rfl) ?_) | (refine l_store1 0 rfl rfl rfl sz5 rfl (by first | decide | (simp; done) | first | omega | with_reducible assumption | (simp only [zb, zu, zw, zi, za]; omega) | (simp only [zs, zr, zm, za, zb, zu, zw, zi, zt, zd, zc, zn, *] <;> first | done | omega) | rfl) ?_)
        simp only [List.set_cons_zero, List.set_cons_succ]
        refine vl_nil ?_
        refine (th_n ?_)
        refine VC_seq ?_
        refine VC_region ?_
        refine vl_v (q_move rfl) rfl ?_
        refine l_call (F := fun v L' => ∃ z x1 : Pl, v = .slice z.1 1 z.2 ∧ L' = bodyR 5 l x1 :: .row 52 138 (.slice z.1 1 z.2) 1 (mailsC [(m, x1)]) :: .blk bC 5 (bys (l.set j (l.getD j 0 ^^^ UInt8.ofNat 1)) ++ more) :: .blk x13 57 [.slice A1 1 c1, vN 1] :: .row 52 138 (.slice A1 1 c1) 1 (mailsC [(m, x)]) :: N) Try.func14 rfl rfl rfl (fun w1 H1 => (list1_calls (X := [_, _, _]) (G := N) hmo hF H1 (Reads.blk 1 rfl w1 H1) (Reads.row 2 rfl w1 H1)).mono fun e w' h => ?_) rfl ?_
        · obtain ⟨z, x1, h1, h2⟩ := h
          rw [hmb] at h2
          exact ⟨_, _, h1, ⟨z, x1, rfl, rfl⟩, h2⟩
        rintro v L' ⟨⟨AL, cL⟩, ⟨AY, cY⟩, rfl, rfl⟩
        dsimp only [bodyR]
        have hmc : ∀ y : Pl, mailsC [(m, y)] = mailC m y := fun y => by simp [mailsC]
        have lmc : ∀ y : Pl, (mailsC [(m, y)]).length = 138 := fun y => by rw [hmc]; exact mailV_length hmo.1
        have h69 : ∀ y : Pl, (mailsC [(m, y)])[69]? = some (.slice y.1 l.length y.2) := fun y => by rw [hmc]; have := mailV_sl (m := m) (sl := .slice y.1 m.X.body.length y.2) hmo.1; rw [hmb] at this; rw [mailC, hmb]; exact this
        refine vl_v (q_assign rfl) rfl ?_
        refine vl_nil ?_
        refine (th_n ?_)
        refine VC_seq ?_
        refine VC_seq ?_
        refine VC_drawV 16 [[], [0], [1], [2], [3, 2], [4, 2], [2, 5], [6, 2], [7], [8, 7], [9, 7], [10, 7], [11, 7], [12, 7], [7], [14, 7], [13, 15, 7], [7, 16]] [[], [0], [0, 1], [0, 1, 2], [0, 1, 2, 3], [0, 1, 2, 3, 4], [0, 1, 2, 3, 4, 5], [0, 1, 2, 3, 4, 5, 6], [0, 1, 2, 3, 4, 5, 6, 7], [0, 1, 2, 3, 4, 5, 6, 7, 8], [0, 1, 2, 3, 4, 5, 6, 7, 8, 9], [0, 1, 2, 3, 4, 5, 6, 7, 8, 9, 10], [0, 1, 2, 3, 4, 5, 6, 7, 8, 9, 10, 11], [0, 1, 2, 3, 4, 5, 6, 7, 8, 9, 10, 11, 12], [0, 1, 2, 3, 4, 5, 6, 7], [0, 1, 2, 3, 4, 5, 6, 7, 14], [0, 1, 2, 3, 4, 5, 6, 7, 8, 9, 10, 11, 12, 13, 14, 15], [0, 1, 2, 3, 4, 5, 6, 7, 8, 9, 10, 11, 12, 13, 14, 15, 16]] rfl (by kernel_rfl) ?_
        refine qv_v (q_move rfl) ?_
        refine qv_v (q_as (v := .bool false) (q_neq_k Try.underlying41 rfl rfl) (by simp)) ?_
        refine qv_v (q_move rfl) ?_
        refine qv_vg (rfl) (q_move rfl) ?_
        refine qv_vg (rfl) (q_lenS Try.underlying46 rfl) ?_
        refine qv_vg (rfl) (q_as (v := .bool false) (q_neq_k Try.underlying3 rfl rfl) (by simp)) ?_
        first | (refine qv_v (q_pickT rfl rfl) ?_) | (refine qv_v (q_pickF rfl rfl) ?_)
        refine qv_v (q_move rfl) ?_
        refine qv_vg (rfl) (q_move rfl) ?_
        refine qv_vg (rfl) (q_idxRdN (m := 0) Try.underlying46 sz52 rfl rfl (by omega) (Reads.row 1 rfl) (by rw [lmc]; omega)) ?_
        refine qv_vg (rfl) (q_fldRd fo52_1 (by decide) rfl rfl) ?_
        refine qv_vg (rfl) (q_fldRd fo36_4 (by decide) rfl rfl) ?_
        refine qv_vg (rfl) (q_loadRd Try.underlying34 rfl rfl (Reads.row 1 rfl) (h69 _)) ?_
        refine qv_vg (rfl) (q_str Try.underlying34 Try.underlying5 Try.underlying9 rfl (Reads.row 0 rfl) rfl) ?_
        refine qv_vg (rfl) (q_move rfl) ?_
        refine qv_vg (rfl) (q_str Try.underlying34 Try.underlying5 Try.underlying9 rfl (Reads.old hA) rfl) ?_
        refine qv_end ?_
        refine VL.keep (Sub.cons (s := 0) rfl (Sub.cons (s := 1) rfl (Sub.cons (s := 4) rfl (Sub.cons (s := 5) rfl (Sub.cons (s := 6) rfl (Sub.cons (s := 29) rfl (Sub.cons (s := 7) rfl (Sub.cons (s := 9) rfl (Sub.cons (s := 10) rfl (Sub.cons (s := 64) rfl (Sub.cons (s := 70) rfl (Sub.cons (s := 72) rfl (Sub.nil _))))))))))))) ?_
        refine vl_vg rfl (q_as (v := .bool false) (q_neStr Try.underlying9 rfl rfl) (by rw [decide_eq_true rfl]; rfl)) rfl ?_
        first | (refine vl_v (q_pickT rfl rfl) rfl ?_) | (refine vl_v (q_pickF rfl rfl) rfl ?_)
        refine vl_nil ?_
        refine (qn_n (th_n ?_))
        refine VC_no (rfl) ?_
        refine VC_skip ?_
        refine (th_n ?_)
        refine VC_seq ?_
        refine VC_rowBlk (by omega) (fun bY mory hAY => ?_)
        subst hAY
        refine VC_drawV 9 [[], [0], [1], [2], [3], [], [], [6], [5, 7], [4, 8], [9], [10], [4, 8, 0, 1, 2, 3, 5, 6, 7, 9, 10, 11], [12, 11, 0, 1, 2, 3, 4, 5, 6, 7, 8, 9, 10]] [[], [0], [0, 1], [0, 1, 2], [0, 1, 2, 3], [], [], [6], [5, 6, 7], [0, 1, 2, 3, 4, 5, 6, 7, 8], [0, 1, 2, 3, 4, 5, 6, 7, 8, 9], [0, 1, 2, 3, 4, 5, 6, 7, 8, 9, 10], [0, 1, 2, 3, 4, 5, 6, 7, 8, 9, 10, 11], [0, 1, 2, 3, 4, 5, 6, 7, 8, 9, 10, 11, 12]] rfl (by kernel_rfl) ?_
        refine qv_v (q_move rfl) ?_
        refine qv_v (q_idxRdN (m := 0) Try.underlying46 sz52 rfl rfl (by omega) (Reads.row 1 rfl) (by rw [lmc]; omega)) ?_
        refine qv_v (q_fldRd fo52_1 (by decide) rfl rfl) ?_
        refine qv_v (q_fldRd fo36_4 (by decide) rfl rfl) ?_
        refine qv_v (q_loadRd Try.underlying34 rfl rfl (Reads.row 1 rfl) (h69 _)) ?_
        refine qv_v (q_move rfl) ?_
        refine qv_v (q_move rfl) ?_
        refine qv_v (q_lenS Try.underlying34 rfl) ?_
        refine qv_v (q_rem_n rfl rfl (by omega)) ?_
        refine qv_end ?_
        refine VL.keep (Sub.cons (s := 0) rfl (Sub.cons (s := 1) rfl (Sub.cons (s := 4) rfl (Sub.cons (s := 5) rfl (Sub.cons (s := 6) rfl (Sub.cons (s := 29) rfl (Sub.cons (s := 7) rfl (Sub.cons (s := 9) rfl (Sub.cons (s := 10) rfl (Sub.cons (s := 74) rfl (Sub.cons (s := 79) rfl (Sub.cons (s := 83) rfl (Sub.nil _))))))))))))) ?_
        rw [← hj]
        refine vl_v (q_idxS0 Try.underlying34 sz5 rfl rfl (by omega) (by rw [Nat.mul_one, Nat.zero_add])) rfl ?_
        first | (refine vl_v (q_load 0 Try.underlying5 rfl rfl rfl (bys_atA (by first | omega | with_reducible assumption | (simp only [zb, zu, zw, zi, za]; omega) | (simp only [zs, zr, zm, za, zb, zu, zw, zi, zt, zd, zc, zn, *] <;> first | done | omega) | rfl))) rfl ?_) | (refine vl_v (q_load 0 Try.underlying5 rfl rfl rfl rfl) rfl ?_)
        refine vl_v (q_xor_u8 (q := UInt8.ofNat 1) rfl rfl) rfl ?_
        refine vl_v (q_idxS0 Try.underlying34 sz5 rfl rfl (by omega) (by rw [Nat.mul_one, Nat.zero_add])) rfl ?_
        first | (refine l_stBA 0 rfl rfl rfl sz5 (by first | omega | with_reducible assumption | (simp only [zb, zu, zw, zi, za]; omega) | (simp only [zs, zr, zm, za, zb, zu, zw, zi, zt, zd, zc, zn, *] <;> first | done | omega) | rfl) ?_) | (refine l_store1 0 rfl rfl rfl sz5 rfl (by first | decide | (simp; done) | first | omega | with_reducible assumption | (simp only [zb, zu, zw, zi, za]; omega) | (simp only [zs, zr, zm, za, zb, zu, zw, zi, zt, zd, zc, zn, *] <;> first | done | omega) | rfl) ?_)
        simp only [List.set_cons_zero, List.set_cons_succ]
        refine vl_nil ?_
        refine (qn_n (th_n ?_))
        refine VC_seq ?_
        refine VC_region ?_
        refine vl_v (q_move rfl) rfl ?_
        refine l_call (F := fun v L' => ∃ z x1 : Pl, v = .slice z.1 1 z.2 ∧ L' = bodyR 5 l x1 :: .row 52 138 (.slice z.1 1 z.2) 1 (mailsC [(m, x1)]) :: N) Try.func14 rfl rfl rfl (fun w1 H1 => (list1_calls (X := [_, _, _, _, _]) (G := N) hmo hF H1 (Reads.blk 3 rfl w1 H1) (Reads.row 4 rfl w1 H1)).mono fun e w' h => ?_) rfl ?_
        · obtain ⟨z, x1, h1, h2⟩ := h
          rw [hmb] at h2
          exact ⟨_, _, h1, ⟨z, x1, rfl, rfl⟩, St.pickR 7 h2 (ks := [0, 1]) (by decide) (by decide) rfl rfl⟩
        rintro v L' ⟨⟨AM, cM⟩, ⟨AZ, cZ⟩, rfl, rfl⟩
        dsimp only [bodyR]
        refine vl_v (q_assign rfl) rfl ?_
        refine vl_nil ?_
        refine (th_n ?_)
        refine VC_seq ?_
        refine VC_drawV 15 [[], [0], [1], [2, 1], [3, 1], [1, 4], [5, 1], [6], [7, 6], [8, 6], [9, 6], [10, 6], [11, 6], [6], [13, 6], [12, 14, 6], [6, 15], [16, 6, 0, 1, 2, 3, 4, 5, 7, 8, 9, 10, 11, 12, 13, 14, 15]] [[], [0], [0, 1], [0, 1, 2], [0, 1, 2, 3], [0, 1, 2, 3, 4], [0, 1, 2, 3, 4, 5], [0, 1, 2, 3, 4, 5, 6], [0, 1, 2, 3, 4, 5, 6, 7], [0, 1, 2, 3, 4, 5, 6, 7, 8], [0, 1, 2, 3, 4, 5, 6, 7, 8, 9], [0, 1, 2, 3, 4, 5, 6, 7, 8, 9, 10], [0, 1, 2, 3, 4, 5, 6, 7, 8, 9, 10, 11], [0, 1, 2, 3, 4, 5, 6], [0, 1, 2, 3, 4, 5, 6, 13], [0, 1, 2, 3, 4, 5, 6, 7, 8, 9, 10, 11, 12, 13, 14], [0, 1, 2, 3, 4, 5, 6, 7, 8, 9, 10, 11, 12, 13, 14, 15], [0, 1, 2, 3, 4, 5, 6, 7, 8, 9, 10, 11, 12, 13, 14, 15, 16]] rfl (by kernel_rfl) ?_
        refine qv_v (q_move rfl) ?_
        refine qv_v (q_move rfl) ?_
        refine qv_vg (rfl) (q_move rfl) ?_
        refine qv_vg (rfl) (q_lenS Try.underlying46 rfl) ?_
        refine qv_vg (rfl) (q_as (v := .bool true) (q_eql_k Try.underlying3 rfl rfl) (by simp)) ?_
        first | (refine qv_v (q_pickT rfl rfl) ?_) | (refine qv_v (q_pickF rfl rfl) ?_)
        refine qv_v (q_move rfl) ?_
        refine qv_vg (rfl) (q_move rfl) ?_
        refine qv_vg (rfl) (q_idxRdN (m := 0) Try.underlying46 sz52 rfl rfl (by omega) (Reads.row 1 rfl) (by rw [lmc]; omega)) ?_
        refine qv_vg (rfl) (q_fldRd fo52_1 (by decide) rfl rfl) ?_
        refine qv_vg (rfl) (q_fldRd fo36_4 (by decide) rfl rfl) ?_
        refine qv_vg (rfl) (q_loadRd Try.underlying34 rfl rfl (Reads.row 1 rfl) (h69 _)) ?_
        refine qv_vg (rfl) (q_str Try.underlying34 Try.underlying5 Try.underlying9 rfl (Reads.row 0 rfl) rfl) ?_
        refine qv_vg (rfl) (q_move rfl) ?_
        refine qv_vg (rfl) (q_str Try.underlying34 Try.underlying5 Try.underlying9 rfl (Reads.old hA) rfl) ?_
        refine qv_end ?_
        refine VL.keep (Sub.cons (s := 0) rfl (Sub.cons (s := 1) rfl (Sub.cons (s := 4) rfl (Sub.cons (s := 5) rfl (Sub.cons (s := 6) rfl (Sub.cons (s := 29) rfl (Sub.cons (s := 7) rfl (Sub.cons (s := 9) rfl (Sub.cons (s := 10) rfl (Sub.cons (s := 74) rfl (Sub.cons (s := 11) rfl (Sub.cons (s := 96) rfl (Sub.cons (s := 102) rfl (Sub.cons (s := 104) rfl (Sub.nil _))))))))))))))) ?_
        refine vl_vg rfl (q_as (v := .bool true) (q_eqStr Try.underlying9 rfl rfl) (by rw [decide_eq_true rfl])) rfl ?_
        first | (refine vl_v (q_pickT rfl rfl) rfl ?_) | (refine vl_v (q_pickF rfl rfl) rfl ?_)
        refine vl_v (q_assign rfl) rfl ?_
        refine vl_nil ?_
        refine (qn_n (th_n ?_))
        refine VC_ret ?_
        refine ⟨_, res1 rfl rfl, ?_⟩
        exact rfl
theorem mailboxOwn.walk (w : World) (v0 : Value) (l : List UInt8) (h0 : BsArg w v0 l) (a : Int) (g : (Lit.int .i64 a).wf = true) :
    Calls Try.prog 5 #[v0, .int .i64 a] w fun e w' => e = .returned (.bool true) ∧ Kept [] w w' := by
  obtain ⟨A, c, rfl, hc, _, hA⟩ := h0
  exact mown_all w l A c a g hc hA

namespace mailboxOwn
open Go.ChangeShapes Go.WideShapes Go.ChangeAt Go.RowKit
theorem own : ownKnob Try.prog.godebug = none := by kernel_rfl
theorem laidOut : laidOutB Try.prog = true := by kernel_rfl
set_option maxRecDepth 100000 in
theorem lifted (os : Os) (started : os.Started) (H : Type) (enc : TypeId × Value → H) :
    ReturnsInHanded {} Try.checked os 5 .any (Rows.mailboxOwnSpec.pre6 enc Try.prog Try.f5 Rows.mailboxOwnRow.domain false) (Rows.mailboxOwnSpec.post enc Try.prog Try.f5 false true false false) := by
  refine returnsInHanded_of_change (C := Try.checked) own started (by kernel_rfl) Try.func5
    (ChangeSpec.witness6 (enc := enc) (C := Try.checked) false ⟨#[], #[.slice none 0 0, .int .i64 0], []⟩ 8 (by kernel_rfl) (by kernel_rfl) (by kernel_rfl) (by kernel_rfl)) ?_
  intro W base args ds gs before hval0 hW hcnd _
  have hval : ∀ (j : Nat) t v, Try.f5.params[j]? = some t → args[j]? = some v → Value.okWide Try.prog W .any base t v := hval0
  have hW' := hW
  obtain ⟨p, q, hA0, hV, rfl, hfz, hnd⟩ := hW
  have hA : DataW.TrodAll enc Try.prog W 0 (fun _ => true) true Try.f5.params.toList args.toList ds p := hA0
  rw [Try.params5] at hA hval
  obtain ⟨v0, vs0, d0, ds0, p0, q0, hargs, rfl, rfl, h0, r0⟩ := trodAll_cons hA
  obtain ⟨v1, vs1, d1, ds1, p1, q1, rfl, rfl, rfl, h1, r1⟩ := trodAll_cons r0
  obtain ⟨rfl, rfl, rfl⟩ := trodAll_nil r1
  obtain rfl : args = #[v0, v1] := by cases args; simp_all
  obtain ⟨rfl, rfl⟩ := trodVars_none hV
  have k0 := h0
  have lt0 : ∀ x ∈ p0, x.block < W.heap.size := by obtain ⟨m, hm⟩ := k0; exact DataW.trod_lt m _ _ _ hm
  have k1 := h1
  have lt1 : ∀ x ∈ p1, x.block < W.heap.size := by obtain ⟨m, hm⟩ := k1; exact DataW.trod_lt m _ _ _ hm
  obtain ⟨l0, g0⟩ := open_bytes Try.underlying34 Try.underlying5 (by kernel_rfl) (hval 0 34 v0 rfl rfl) h0
  obtain ⟨n1, rfl, _, _, g1⟩ := open_int Try.underlying3 (hval 1 3 v1 rfl rfl) h1
  clear hA0 hval0
  refine (mailboxOwn.walk W v0 l0 g0 n1 g1).mono fun e W' ⟨he, hK⟩ => ?_
  subst he
  have bel := hK.below
  exact ⟨_, rfl, _, _, _, [], _, [], hW', trodAll_mk1 (shut_bool Try.underlying4 _), (trodAll_cons_mk (Below.trod laidOut (by kernel_rfl) (of_decide_eq_true (by kernel_rfl)) k0 bel lt0) (trodAll_cons_mk (Below.trod laidOut (by kernel_rfl) (of_decide_eq_true (by kernel_rfl)) k1 bel lt1) trodAll_mk0)), rfl, bel.frame _, fun h => by cases h⟩
theorem over : Rows.mailboxOwnRow.holds Try.pinned (OpenSpec.ofChange Rows.mailboxOwnSpec) :=
  OpenClaim.holds_of_wide 5 Try.f5 rfl rfl rfl rfl rfl rfl rfl ⟨rfl, rfl, rfl, rfl, rfl⟩ rfl rfl rfl rfl rfl (by kernel_rfl) Try.func5 (by kernel_rfl)
    (of_decide_eq_true (by kernel_rfl)) (by unfold Func.isWrapper; first | (rw [if_pos (by decide +kernel)]; kernel_rfl) | (rw [if_neg (by decide +kernel)]; exact ⟨rfl, rfl⟩))
    (fun os started H enc _ => lifted os started H enc)
theorem proved : Rows.MailboxOwnSaid := over
end mailboxOwn
/-- The row. -/
theorem mailboxOwn_holds : Rows.MailboxOwnSaid := mailboxOwn.proved
#print axioms mailboxOwn_holds
end Go.Proofs.Ytadaihpeionniaa
