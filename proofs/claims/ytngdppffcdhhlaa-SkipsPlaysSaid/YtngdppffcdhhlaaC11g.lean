/- The document's store (palfreyref11): a key is put. No condition. -/
import Derived.Test.YtngdppffcdhhlaaC11f
namespace Go.Proofs.Ytngdppffcdhhlaa
open Go Go.RowKit Go.PBYtngdppffcdhhlaa
set_option linter.unusedVariables false
set_option linter.unusedSimpArgs false
set_option maxRecDepth 10000

theorem kept_tail {L : List Ent} (h : 0 < L.length) (hok : ∀ x ∈ L, x.ok) : keptC (L.eraseIdx 0) = (keptC L).drop (1 * 65) := by
  match L with
  | [] => simp at h
  | x :: r =>
    have hx := Ent.cells_length (hok x (by simp))
    show keptC r = (x.cells ++ keptC r).drop (1 * 65)
    rw [List.drop_left' (by rw [hx])]
/-- the document's store, that keeps these, among other things -/
def DocC (S : List Nat) (w0 : World) (br : Nat) (L : List Ent) (R : List Res) (w' : World) : Prop :=
  ∃ A c r, (∀ w'', r.ok w'' → SlAt w'' A (keptC L)) ∧ L.length ≤ c ∧ St S w0 ([.blk br 41 [.slice A L.length c], r] ++ R) w'
theorem DocC.swap {S : List Nat} {w0 w w' : World} {X R : List Res} {br : Nat} {L : List Ent} (H : St S w0 (X ++ R) w) (h : DocC (ats X) w br L [] w') : DocC S w0 br L R w' := by
  obtain ⟨A, c, r, h1, h2, h3⟩ := h
  rw [List.append_nil] at h3
  exact ⟨A, c, r, h1, h2, H.swap h3⟩
set_option maxHeartbeats 4000000 in
theorem dput_neg {S : List Nat} {w0 w : World} {br c : Nat} {r : Res} {A : Option Addr} {L : List Ent} (e : Ent) (lp : e.p.length = 32) (lk : e.k.length = 32) (hnw : (Lit.int .i64 e.n).wf = true) (hr : ∀ w'', r.ok w'' → SlAt w'' A (keptC L)) (hc : L.length ≤ c) (H : St S w0 [.blk br 41 [.slice A L.length c], r] w) (hG : GoodL L) (hl : L.length ≤ 8) (hneg : e.n < 0) :
    Calls Try.prog 13 #[vP br 0, .agg (bys e.p).toArray, vI e.n, .agg (bys e.k).toArray] w fun r w' => r = .returned (.int .i64 1) ∧ DocC S w0 br (L) [] w' := by
  have he : e.ok := ⟨lp, lk, hnw⟩
  have hkl := keptC_length hG.ok
  have hk1 := keptC_one L
  have lec := Ent.cells_length he
  have oec := Ent.cells_one (e := e)
  have hfl : ([e.cells].flatten).length = 1 * 65 := by simp [lec]
  have hfe : [e.cells].flatten = e.cells := by simp
  have hfo : ∀ u ∈ [e.cells].flatten, u.oneCell' = true := by rw [hfe]; exact oec
  refine enter (n := 45) (R := fun r L' => r = .returned (.int .i64 1) ∧ ∀ w', St S w0 L' w' → DocC S w0 br (L) [] w') [vP br 0, .agg (bys e.p).toArray, vI e.n, .agg (bys e.k).toArray] Try.func13 rfl rfl rfl H ?_ (fun e w' L' h H => ⟨h.1, h.2 w' H⟩)
  refine VC_seq ?_
  refine VC_region ?_
  refine l_boxA rfl rfl ?_
  intro b5
  refine l_boxA rfl rfl ?_
  intro b7
  refine vl_v (q_assign rfl) rfl ?_
  refine vl_nil ?_
  refine (th_n ?_)
  refine VC_seq ?_
  refine VC_seq ?_
  refine VC_region ?_
  refine vl_v (q_move rfl) rfl ?_
  refine vl_v (q_as (v := .bool true) (q_lss_k (q := 0) Try.underlying3 rfl rfl) (by simp; omega)) rfl ?_
  refine vl_nil ?_
  refine (th_n ?_)
  refine VC_yes (rfl) ?_
  refine VC_seq ?_
  refine VC_region ?_
  refine vl_v (q_assign rfl) rfl ?_
  refine vl_nil ?_
  refine (th_n ?_)
  refine VC_ret ?_
  refine (th_r ?_)
  refine ⟨_, res1 rfl rfl, ?_⟩
  exact ⟨rfl, fun w' H' => ⟨A, c, r, hr, hc, St.pick H' (ks := [2, 3]) (by decide) rfl⟩⟩
set_option maxHeartbeats 4000000 in
theorem dput_twice {S : List Nat} {w0 w : World} {br c : Nat} {r : Res} {A : Option Addr} {L : List Ent} (e : Ent) (lp : e.p.length = 32) (lk : e.k.length = 32) (hnw : (Lit.int .i64 e.n).wf = true) (hr : ∀ w'', r.ok w'' → SlAt w'' A (keptC L)) (hc : L.length ≤ c) (H : St S w0 [.blk br 41 [.slice A L.length c], r] w) (hG : GoodL L) (hl : L.length ≤ 8) (hneg : ¬ e.n < 0) (hin : e.key ∈ L.map Ent.key) :
    Calls Try.prog 13 #[vP br 0, .agg (bys e.p).toArray, vI e.n, .agg (bys e.k).toArray] w fun r w' => r = .returned (.int .i64 9) ∧ DocC S w0 br (L) [] w' := by
  have he : e.ok := ⟨lp, lk, hnw⟩
  have hkl := keptC_length hG.ok
  have hk1 := keptC_one L
  have lec := Ent.cells_length he
  have oec := Ent.cells_one (e := e)
  have hfl : ([e.cells].flatten).length = 1 * 65 := by simp [lec]
  have hfe : [e.cells].flatten = e.cells := by simp
  have hfo : ∀ u ∈ [e.cells].flatten, u.oneCell' = true := by rw [hfe]; exact oec
  refine enter (n := 45) (R := fun r L' => r = .returned (.int .i64 9) ∧ ∀ w', St S w0 L' w' → DocC S w0 br (L) [] w') [vP br 0, .agg (bys e.p).toArray, vI e.n, .agg (bys e.k).toArray] Try.func13 rfl rfl rfl H ?_ (fun e w' L' h H => ⟨h.1, h.2 w' H⟩)
  refine VC_seq ?_
  refine VC_region ?_
  refine l_boxA rfl rfl ?_
  intro b5
  refine l_boxA rfl rfl ?_
  intro b7
  refine vl_v (q_assign rfl) rfl ?_
  refine vl_nil ?_
  refine (th_n ?_)
  refine VC_seq ?_
  refine VC_seq ?_
  refine VC_region ?_
  refine vl_v (q_move rfl) rfl ?_
  refine vl_v (q_as (v := .bool false) (q_lss_k (q := 0) Try.underlying3 rfl rfl) (by simp; omega)) rfl ?_
  refine vl_nil ?_
  refine (th_n ?_)
  refine VC_no (rfl) ?_
  refine VC_skip ?_
  refine (th_n ?_)
  refine VC_seq ?_
  refine VC_seq ?_
  refine VC_region ?_
  obtain ⟨j, x, hj, hx⟩ := key_at hin
  have hat : AtR L (e.p, e.n) j := by have h9 := atR_yes hG hj; rw [hx] at h9; exact h9
  have hjl := (List.getElem?_eq_some_iff.1 hj).1
  refine vl_v (q_move rfl) rfl ?_
  first | (refine vl_v (q_loads 1 Try.underlying23 rfl rfl rfl sz23 (by first | omega | with_reducible assumption | (simp only [zb, zu, zw, zi, za]; omega) | (simp only [zs, zr, zm, za, zb, zu, zw, zi, zt, zd, zc, zn, *] <;> first | done | omega) | rfl)) rfl ?_) | (refine vl_v (q_loadsAt 1 Try.underlying23 rfl rfl rfl sz23 (by rfl) (by first | omega | with_reducible assumption | (simp only [zb, zu, zw, zi, za]; omega) | (simp only [zs, zr, zm, za, zb, zu, zw, zi, zt, zd, zc, zn, *] <;> first | done | omega) | rfl)) rfl ?_)
  refine vl_v (q_move rfl) rfl ?_
  refine vl_v (q_callV Try.func17 rfl rfl rfl (fun w1 H1 => at_calls w1 br c j 0 A L e.p e.n lp hnw (Reads.blk 2 rfl w1 H1) (hr w1 (H1.get (k := 3) rfl)) hG (by omega) hat)) rfl ?_
  refine vl_v (q_as (v := .bool true) (q_geq_k (q := 0) Try.underlying3 rfl rfl) (by simp [atI, hjl])) rfl ?_
  refine vl_nil ?_
  refine (th_n ?_)
  refine VC_yes (rfl) ?_
  refine VC_seq ?_
  refine VC_region ?_
  refine vl_v (q_assign rfl) rfl ?_
  refine vl_nil ?_
  refine (th_n ?_)
  refine VC_ret ?_
  refine (th_r ?_)
  refine ⟨_, res1 rfl rfl, ?_⟩
  exact ⟨rfl, fun w' H' => ⟨A, c, r, hr, hc, St.pick H' (ks := [2, 3]) (by decide) rfl⟩⟩
set_option maxHeartbeats 4000000 in
theorem dput_new {S : List Nat} {w0 w : World} {br c : Nat} {r : Res} {A : Option Addr} {L : List Ent} (e : Ent) (lp : e.p.length = 32) (lk : e.k.length = 32) (hnw : (Lit.int .i64 e.n).wf = true) (hr : ∀ w'', r.ok w'' → SlAt w'' A (keptC L)) (hc : L.length ≤ c) (H : St S w0 [.blk br 41 [.slice A L.length c], r] w) (hG : GoodL L) (hl : L.length ≤ 8) (hneg : ¬ e.n < 0) (hno : e.key ∉ L.map Ent.key) (h8 : L.length < 8) :
    Calls Try.prog 13 #[vP br 0, .agg (bys e.p).toArray, vI e.n, .agg (bys e.k).toArray] w fun r w' => r = .returned (.int .i64 0) ∧ DocC S w0 br (L ++ [e]) [] w' := by
  have he : e.ok := ⟨lp, lk, hnw⟩
  have hkl := keptC_length hG.ok
  have hk1 := keptC_one L
  have lec := Ent.cells_length he
  have oec := Ent.cells_one (e := e)
  have hfl : ([e.cells].flatten).length = 1 * 65 := by simp [lec]
  have hfe : [e.cells].flatten = e.cells := by simp
  have hfo : ∀ u ∈ [e.cells].flatten, u.oneCell' = true := by rw [hfe]; exact oec
  refine enter (n := 45) (R := fun r L' => r = .returned (.int .i64 0) ∧ ∀ w', St S w0 L' w' → DocC S w0 br (L ++ [e]) [] w') [vP br 0, .agg (bys e.p).toArray, vI e.n, .agg (bys e.k).toArray] Try.func13 rfl rfl rfl H ?_ (fun e w' L' h H => ⟨h.1, h.2 w' H⟩)
  refine VC_seq ?_
  refine VC_region ?_
  refine l_boxA rfl rfl ?_
  intro b5
  refine l_boxA rfl rfl ?_
  intro b7
  refine vl_v (q_assign rfl) rfl ?_
  refine vl_nil ?_
  refine (th_n ?_)
  refine VC_seq ?_
  refine VC_seq ?_
  refine VC_region ?_
  refine vl_v (q_move rfl) rfl ?_
  refine vl_v (q_as (v := .bool false) (q_lss_k (q := 0) Try.underlying3 rfl rfl) (by simp; omega)) rfl ?_
  refine vl_nil ?_
  refine (th_n ?_)
  refine VC_no (rfl) ?_
  refine VC_skip ?_
  refine (th_n ?_)
  refine VC_seq ?_
  refine VC_seq ?_
  refine VC_region ?_
  have hG2 := hG.snoc he hno
  have hat : AtR L (e.p, e.n) L.length := atR_no hno
  refine vl_v (q_move rfl) rfl ?_
  first | (refine vl_v (q_loads 1 Try.underlying23 rfl rfl rfl sz23 (by first | omega | with_reducible assumption | (simp only [zb, zu, zw, zi, za]; omega) | (simp only [zs, zr, zm, za, zb, zu, zw, zi, zt, zd, zc, zn, *] <;> first | done | omega) | rfl)) rfl ?_) | (refine vl_v (q_loadsAt 1 Try.underlying23 rfl rfl rfl sz23 (by rfl) (by first | omega | with_reducible assumption | (simp only [zb, zu, zw, zi, za]; omega) | (simp only [zs, zr, zm, za, zb, zu, zw, zi, zt, zd, zc, zn, *] <;> first | done | omega) | rfl)) rfl ?_)
  refine vl_v (q_move rfl) rfl ?_
  refine vl_v (q_callV Try.func17 rfl rfl rfl (fun w1 H1 => at_calls w1 br c L.length 0 A L e.p e.n lp hnw (Reads.blk 2 rfl w1 H1) (hr w1 (H1.get (k := 3) rfl)) hG (by omega) hat)) rfl ?_
  refine vl_v (q_as (v := .bool false) (q_geq_k (q := 0) Try.underlying3 rfl rfl) (by simp [atI])) rfl ?_
  refine vl_nil ?_
  refine (th_n ?_)
  refine VC_no (rfl) ?_
  refine VC_skip ?_
  refine (th_n ?_)
  refine VC_seq ?_
  refine VC_drawQ 13 4 [[], [], [], [2], [3], [4], [1, 5], [], [], [], [7, 8, 9], [10], [6, 11], [0, 1, 2, 3, 4, 5, 6, 7, 8, 9, 10, 11, 12], [13, 0, 1, 2, 3, 4, 5, 6, 7, 8, 9, 10, 11, 12], [14, 12, 0, 1, 2, 3, 4, 5, 6, 7, 8, 9, 10, 11]] [[], [], [], [2], [2, 3], [2, 3, 4], [1, 2, 3, 4, 5], [], [], [], [7, 8, 9], [7, 8, 9, 10], [1, 2, 3, 4, 5, 6, 7, 8, 9, 10, 11], [0, 1, 2, 3, 4, 5, 6, 7, 8, 9, 10, 11, 12], [0, 1, 2, 3, 4, 5, 6, 7, 8, 9, 10, 11, 12, 13], [0, 1, 2, 3, 4, 5, 6, 7, 8, 9, 10, 11, 12, 13, 14]] [([], [], [], [0, 1, 2, 3], []), ([], [], [], [0, 1, 2, 3], []), ([], [], [], [0, 1, 2, 3], []), ([2], [], [], [0, 1, 2, 3], [2]), ([2, 3], [], [], [0, 1, 2, 3], [2, 3]), ([2, 3, 4], [], [], [0, 1, 2, 3], [2, 3, 4]), ([1, 2, 3, 4, 5], [], [1], [0, 1, 2, 3], [2, 3, 4, 5]), ([], [], [], [0, 1, 2, 3], []), ([], [], [], [0, 1, 2, 3], []), ([], [], [], [0, 1, 2, 3], []), ([7, 8, 9], [], [], [0, 1, 2, 3], [7, 8, 9]), ([7, 8, 9, 10], [], [], [0, 1, 2, 3], [7, 8, 9, 10]), ([1, 2, 3, 4, 5, 6, 7, 8, 9, 10, 11], [], [6], [0, 1, 2, 3], [2, 3, 4, 5, 7, 8, 9, 10, 11])] [0, 1, 2, 3] [0, 2, 3, 4, 5, 7, 8, 9, 10, 11, 12] rfl rfl (by kernel_rfl) ?_
  refine qp_v (fun xs gs hx => q_move rfl) ?_
  refine qp_a (fun xs gs hx => q_litG [] Try.underlying39 in55 (by decide) (by decide) rfl rfl rfl (by intro v hv; cases hv)) ?_
  refine qp_v (fun xs gs hx => q_move rfl) ?_
  refine qp_v (fun xs gs hx => q_nilck rfl) ?_
  refine qp_v (fun xs gs hx => q_fldA fo41_0 (by decide) rfl rfl) ?_
  refine qp_v (fun xs gs hx => q_load 2 Try.underlying39 rfl rfl rfl rfl) ?_
  refine qp_append Try.underlying39 Try.underlying39 in55 rfl (by decide) (fun xs gs hx => rfl) (fun xs gs hx => rfl) (fun xs gs hx => ⟨_, _, rfl, fun w' H' => hr w' (H'.get (k := 3) rfl)⟩) (fun xs gs hx => by first | omega | with_reducible assumption | (simp only [zb, zu, zw, zi, za]; omega) | (simp only [zs, zr, zm, za, zb, zu, zw, zi, zt, zd, zc, zn, *] <;> first | done | omega) | rfl) (fun xs gs hx => by first | (with_reducible first | exact bys_one _ | exact u32s_one _ | exact u64s_one _ | exact i64s_one _ | exact n64s_one _ | assumption) | exact bys_one _ | exact u32s_one _ | exact u64s_one _ | exact i64s_one _ | exact one_all rfl | (refine app_one ?_ ?_ <;> first | exact bys_one _ | exact one_all rfl | (simp; done))) (by first | omega | with_reducible assumption | (simp only [zb, zu, zw, zi, za]; omega) | (simp only [zs, zr, zm, za, zb, zu, zw, zi, zt, zd, zc, zn, *] <;> first | done | omega) | rfl) (by first | omega | with_reducible assumption | (simp only [zb, zu, zw, zi, za]; omega) | (simp only [zs, zr, zm, za, zb, zu, zw, zi, zt, zd, zc, zn, *] <;> first | done | omega) | rfl) ?_
  first | (refine qp_v (fun xs gs hx => q_loads 1 Try.underlying23 rfl rfl rfl sz23 (by first | omega | with_reducible assumption | (simp only [zb, zu, zw, zi, za]; omega) | (simp only [zs, zr, zm, za, zb, zu, zw, zi, zt, zd, zc, zn, *] <;> first | done | omega) | rfl)) ?_) | (refine qp_v (fun xs gs hx => q_loadsAt 1 Try.underlying23 rfl rfl rfl sz23 (by rfl) (by first | omega | with_reducible assumption | (simp only [zb, zu, zw, zi, za]; omega) | (simp only [zs, zr, zm, za, zb, zu, zw, zi, zt, zd, zc, zn, *] <;> first | done | omega) | rfl)) ?_)
  refine qp_v (fun xs gs hx => q_move rfl) ?_
  first | (refine qp_v (fun xs gs hx => q_loads 0 Try.underlying23 rfl rfl rfl sz23 (by first | omega | with_reducible assumption | (simp only [zb, zu, zw, zi, za]; omega) | (simp only [zs, zr, zm, za, zb, zu, zw, zi, zt, zd, zc, zn, *] <;> first | done | omega) | rfl)) ?_) | (refine qp_v (fun xs gs hx => q_loadsAt 0 Try.underlying23 rfl rfl rfl sz23 (by rfl) (by first | omega | with_reducible assumption | (simp only [zb, zu, zw, zi, za]; omega) | (simp only [zs, zr, zm, za, zb, zu, zw, zi, zt, zd, zc, zn, *] <;> first | done | omega) | rfl)) ?_)
  refine qp_v (fun xs gs hx => q_buildS (tot := 65) (sizes := [32, 1, 32]) (c' := e.cells) (by kernel_rfl) rfl rfl rfl rfl (by simp only [List.map_cons, List.map_nil, cellsL, Value.cells, bys_length, lp, lk]; rfl) (by simp only [flatV, cellsL, Value.cells, List.map_cons, List.map_nil, List.flatten_cons, List.flatten_nil, List.append_nil]; rfl)) ?_
  refine qp_a (fun xs gs hx => q_litG [e.cells] Try.underlying39 in55 (by decide) (by decide) rfl rfl rfl (by intro v hv; rw [List.mem_singleton.1 hv]; exact lec)) ?_
  refine qp_append Try.underlying39 Try.underlying39 in55 rfl (by decide) (fun xs gs hx => rfl) (fun xs gs hx => rfl) (fun xs gs hx => (let ⟨b', e'⟩ := hx.2.2.1 rfl; ⟨_, _, congrArg some e', Reads.rowV 4 e' rfl⟩)) (fun xs gs hx => by first | omega | with_reducible assumption | (simp only [zb, zu, zw, zi, za]; omega) | (simp only [zs, zr, zm, za, zb, zu, zw, zi, zt, zd, zc, zn, *] <;> first | done | omega) | rfl) (fun xs gs hx => by first | (with_reducible first | exact bys_one _ | exact u32s_one _ | exact u64s_one _ | exact i64s_one _ | exact n64s_one _ | assumption) | exact bys_one _ | exact u32s_one _ | exact u64s_one _ | exact i64s_one _ | exact one_all rfl | (refine app_one ?_ ?_ <;> first | exact bys_one _ | exact one_all rfl | (simp; done))) (by first | omega | with_reducible assumption | (simp only [zb, zu, zw, zi, za]; omega) | (simp only [zs, zr, zm, za, zb, zu, zw, zi, zt, zd, zc, zn, *] <;> first | done | omega) | rfl) (by first | omega | with_reducible assumption | (simp only [zb, zu, zw, zi, za]; omega) | (simp only [zs, zr, zm, za, zb, zu, zw, zi, zt, zd, zc, zn, *] <;> first | done | omega) | rfl) ?_
  refine qp_end ?_
  intro xs gs hx
  obtain ⟨⟨b17, e17⟩, ⟨A22, c22, e22, hc22, hm22⟩, ⟨b27, e27⟩, ⟨A28, c28, e28, hc28, hm28⟩, _⟩ := hx
  simp only [selI, ownsA, List.contains_cons, List.contains_nil, Nat.reduceBEq, Nat.reduceAdd, Bool.or_false, Bool.or_true, Bool.false_or, Bool.true_or, mask, nRow, nBlk, nRowT, tupAt_0, tupAt_1, List.append_assoc, List.nil_append, List.append_nil, List.cons_append, List.singleton_append, e17, e22, e27, e28]
  refine VL.keep (Sub.cons (s := 0) rfl (Sub.cons (s := 1) rfl (Sub.cons (s := 2) rfl (Sub.cons (s := 3) rfl (Sub.cons (s := 5) rfl (Sub.cons (s := 7) rfl (Sub.cons (s := 8) rfl (Sub.cons (s := 10) rfl (Sub.cons (s := 15) rfl (Sub.cons (s := 16) rfl (Sub.cons (s := 28) rfl (Sub.nil _)))))))))))) ?_
  refine vl_v (q_nilck rfl) rfl ?_
  refine vl_v (q_fldA fo41_0 (by decide) rfl rfl) rfl ?_
  refine l_store1 2 rfl rfl rfl sz39 rfl (by first | decide | (simp; done) | first | omega | with_reducible assumption | (simp only [zb, zu, zw, zi, za]; omega) | (simp only [zs, zr, zm, za, zb, zu, zw, zi, zt, zd, zc, zn, *] <;> first | done | omega) | rfl) ?_
  simp only [List.set_cons_zero, List.set_cons_succ]
  refine vl_nil ?_
  refine (qn_n (th_n ?_))
  refine VC_seq ?_
  refine VC_seq ?_
  refine VC_region ?_
  refine vl_v (q_move rfl) rfl ?_
  refine vl_v (q_nilck rfl) rfl ?_
  refine vl_v (q_fldA fo41_0 (by decide) rfl rfl) rfl ?_
  refine vl_v (q_load 2 Try.underlying39 rfl rfl rfl rfl) rfl ?_
  refine vl_v (q_lenS Try.underlying39 rfl) rfl ?_
  refine vl_v (q_false (q_gtr_n (q := 8) Try.underlying3 rfl rfl) (by simp; omega)) rfl ?_
  refine vl_nil ?_
  refine (th_n ?_)
  refine VC_no (rfl) ?_
  refine VC_skip ?_
  refine (th_n ?_)
  refine VC_seq ?_
  refine VC_region ?_
  refine vl_v (q_assign rfl) rfl ?_
  refine vl_nil ?_
  refine (th_n ?_)
  refine VC_ret ?_
  refine ⟨_, res1 rfl rfl, ?_⟩
  refine ⟨rfl, fun w' H' => ⟨A28, c28, .row 55 65 (.slice A28 (0 + L.length + 1) c28) (0 + L.length + 1) ([].flatten ++ (keptC L ++ [e.cells].flatten)), fun w9 h9 => ?_, ?_, ?_⟩⟩
  rotate_right
  · have H2 := St.pick H' (ks := [2, 5]) (by decide) rfl
    rw [show 0 + L.length + 1 = L.length + 1 by omega] at H2
    rw [show (L ++ [e]).length = L.length + 1 by simp, show 0 + L.length + 1 = L.length + 1 by omega]
    exact H2
  · have h10 := Row.sl h9
    rw [keptC_append, show keptC [e] = [e.cells].flatten from rfl]
    exact h10
  · rw [show (L ++ [e]).length = L.length + 1 by simp]
    omega
set_option maxHeartbeats 4000000 in
theorem dput_full {S : List Nat} {w0 w : World} {br c : Nat} {r : Res} {A : Option Addr} {L : List Ent} (e : Ent) (lp : e.p.length = 32) (lk : e.k.length = 32) (hnw : (Lit.int .i64 e.n).wf = true) (hr : ∀ w'', r.ok w'' → SlAt w'' A (keptC L)) (hc : L.length ≤ c) (H : St S w0 [.blk br 41 [.slice A L.length c], r] w) (hG : GoodL L) (hl : L.length ≤ 8) (hneg : ¬ e.n < 0) (hno : e.key ∉ L.map Ent.key) (h8 : L.length = 8) :
    Calls Try.prog 13 #[vP br 0, .agg (bys e.p).toArray, vI e.n, .agg (bys e.k).toArray] w fun r w' => r = .returned (.int .i64 0) ∧ DocC S w0 br ((L ++ [e]).eraseIdx 0) [] w' := by
  have he : e.ok := ⟨lp, lk, hnw⟩
  have hkl := keptC_length hG.ok
  have hk1 := keptC_one L
  have lec := Ent.cells_length he
  have oec := Ent.cells_one (e := e)
  have hfl : ([e.cells].flatten).length = 1 * 65 := by simp [lec]
  have hfe : [e.cells].flatten = e.cells := by simp
  have hfo : ∀ u ∈ [e.cells].flatten, u.oneCell' = true := by rw [hfe]; exact oec
  refine enter (n := 45) (R := fun r L' => r = .returned (.int .i64 0) ∧ ∀ w', St S w0 L' w' → DocC S w0 br ((L ++ [e]).eraseIdx 0) [] w') [vP br 0, .agg (bys e.p).toArray, vI e.n, .agg (bys e.k).toArray] Try.func13 rfl rfl rfl H ?_ (fun e w' L' h H => ⟨h.1, h.2 w' H⟩)
  refine VC_seq ?_
  refine VC_region ?_
  refine l_boxA rfl rfl ?_
  intro b5
  refine l_boxA rfl rfl ?_
  intro b7
  refine vl_v (q_assign rfl) rfl ?_
  refine vl_nil ?_
  refine (th_n ?_)
  refine VC_seq ?_
  refine VC_seq ?_
  refine VC_region ?_
  refine vl_v (q_move rfl) rfl ?_
  refine vl_v (q_as (v := .bool false) (q_lss_k (q := 0) Try.underlying3 rfl rfl) (by simp; omega)) rfl ?_
  refine vl_nil ?_
  refine (th_n ?_)
  refine VC_no (rfl) ?_
  refine VC_skip ?_
  refine (th_n ?_)
  refine VC_seq ?_
  refine VC_seq ?_
  refine VC_region ?_
  have hG2 := hG.snoc he hno
  have hat : AtR L (e.p, e.n) L.length := atR_no hno
  refine vl_v (q_move rfl) rfl ?_
  first | (refine vl_v (q_loads 1 Try.underlying23 rfl rfl rfl sz23 (by first | omega | with_reducible assumption | (simp only [zb, zu, zw, zi, za]; omega) | (simp only [zs, zr, zm, za, zb, zu, zw, zi, zt, zd, zc, zn, *] <;> first | done | omega) | rfl)) rfl ?_) | (refine vl_v (q_loadsAt 1 Try.underlying23 rfl rfl rfl sz23 (by rfl) (by first | omega | with_reducible assumption | (simp only [zb, zu, zw, zi, za]; omega) | (simp only [zs, zr, zm, za, zb, zu, zw, zi, zt, zd, zc, zn, *] <;> first | done | omega) | rfl)) rfl ?_)
  refine vl_v (q_move rfl) rfl ?_
  refine vl_v (q_callV Try.func17 rfl rfl rfl (fun w1 H1 => at_calls w1 br c L.length 0 A L e.p e.n lp hnw (Reads.blk 2 rfl w1 H1) (hr w1 (H1.get (k := 3) rfl)) hG (by omega) hat)) rfl ?_
  refine vl_v (q_as (v := .bool false) (q_geq_k (q := 0) Try.underlying3 rfl rfl) (by simp [atI])) rfl ?_
  refine vl_nil ?_
  refine (th_n ?_)
  refine VC_no (rfl) ?_
  refine VC_skip ?_
  refine (th_n ?_)
  refine VC_seq ?_
  refine VC_drawQ 13 4 [[], [], [], [2], [3], [4], [1, 5], [], [], [], [7, 8, 9], [10], [6, 11], [0, 1, 2, 3, 4, 5, 6, 7, 8, 9, 10, 11, 12], [13, 0, 1, 2, 3, 4, 5, 6, 7, 8, 9, 10, 11, 12], [14, 12, 0, 1, 2, 3, 4, 5, 6, 7, 8, 9, 10, 11]] [[], [], [], [2], [2, 3], [2, 3, 4], [1, 2, 3, 4, 5], [], [], [], [7, 8, 9], [7, 8, 9, 10], [1, 2, 3, 4, 5, 6, 7, 8, 9, 10, 11], [0, 1, 2, 3, 4, 5, 6, 7, 8, 9, 10, 11, 12], [0, 1, 2, 3, 4, 5, 6, 7, 8, 9, 10, 11, 12, 13], [0, 1, 2, 3, 4, 5, 6, 7, 8, 9, 10, 11, 12, 13, 14]] [([], [], [], [0, 1, 2, 3], []), ([], [], [], [0, 1, 2, 3], []), ([], [], [], [0, 1, 2, 3], []), ([2], [], [], [0, 1, 2, 3], [2]), ([2, 3], [], [], [0, 1, 2, 3], [2, 3]), ([2, 3, 4], [], [], [0, 1, 2, 3], [2, 3, 4]), ([1, 2, 3, 4, 5], [], [1], [0, 1, 2, 3], [2, 3, 4, 5]), ([], [], [], [0, 1, 2, 3], []), ([], [], [], [0, 1, 2, 3], []), ([], [], [], [0, 1, 2, 3], []), ([7, 8, 9], [], [], [0, 1, 2, 3], [7, 8, 9]), ([7, 8, 9, 10], [], [], [0, 1, 2, 3], [7, 8, 9, 10]), ([1, 2, 3, 4, 5, 6, 7, 8, 9, 10, 11], [], [6], [0, 1, 2, 3], [2, 3, 4, 5, 7, 8, 9, 10, 11])] [0, 1, 2, 3] [0, 2, 3, 4, 5, 7, 8, 9, 10, 11, 12] rfl rfl (by kernel_rfl) ?_
  refine qp_v (fun xs gs hx => q_move rfl) ?_
  refine qp_a (fun xs gs hx => q_litG [] Try.underlying39 in55 (by decide) (by decide) rfl rfl rfl (by intro v hv; cases hv)) ?_
  refine qp_v (fun xs gs hx => q_move rfl) ?_
  refine qp_v (fun xs gs hx => q_nilck rfl) ?_
  refine qp_v (fun xs gs hx => q_fldA fo41_0 (by decide) rfl rfl) ?_
  refine qp_v (fun xs gs hx => q_load 2 Try.underlying39 rfl rfl rfl rfl) ?_
  refine qp_append Try.underlying39 Try.underlying39 in55 rfl (by decide) (fun xs gs hx => rfl) (fun xs gs hx => rfl) (fun xs gs hx => ⟨_, _, rfl, fun w' H' => hr w' (H'.get (k := 3) rfl)⟩) (fun xs gs hx => by first | omega | with_reducible assumption | (simp only [zb, zu, zw, zi, za]; omega) | (simp only [zs, zr, zm, za, zb, zu, zw, zi, zt, zd, zc, zn, *] <;> first | done | omega) | rfl) (fun xs gs hx => by first | (with_reducible first | exact bys_one _ | exact u32s_one _ | exact u64s_one _ | exact i64s_one _ | exact n64s_one _ | assumption) | exact bys_one _ | exact u32s_one _ | exact u64s_one _ | exact i64s_one _ | exact one_all rfl | (refine app_one ?_ ?_ <;> first | exact bys_one _ | exact one_all rfl | (simp; done))) (by first | omega | with_reducible assumption | (simp only [zb, zu, zw, zi, za]; omega) | (simp only [zs, zr, zm, za, zb, zu, zw, zi, zt, zd, zc, zn, *] <;> first | done | omega) | rfl) (by first | omega | with_reducible assumption | (simp only [zb, zu, zw, zi, za]; omega) | (simp only [zs, zr, zm, za, zb, zu, zw, zi, zt, zd, zc, zn, *] <;> first | done | omega) | rfl) ?_
  first | (refine qp_v (fun xs gs hx => q_loads 1 Try.underlying23 rfl rfl rfl sz23 (by first | omega | with_reducible assumption | (simp only [zb, zu, zw, zi, za]; omega) | (simp only [zs, zr, zm, za, zb, zu, zw, zi, zt, zd, zc, zn, *] <;> first | done | omega) | rfl)) ?_) | (refine qp_v (fun xs gs hx => q_loadsAt 1 Try.underlying23 rfl rfl rfl sz23 (by rfl) (by first | omega | with_reducible assumption | (simp only [zb, zu, zw, zi, za]; omega) | (simp only [zs, zr, zm, za, zb, zu, zw, zi, zt, zd, zc, zn, *] <;> first | done | omega) | rfl)) ?_)
  refine qp_v (fun xs gs hx => q_move rfl) ?_
  first | (refine qp_v (fun xs gs hx => q_loads 0 Try.underlying23 rfl rfl rfl sz23 (by first | omega | with_reducible assumption | (simp only [zb, zu, zw, zi, za]; omega) | (simp only [zs, zr, zm, za, zb, zu, zw, zi, zt, zd, zc, zn, *] <;> first | done | omega) | rfl)) ?_) | (refine qp_v (fun xs gs hx => q_loadsAt 0 Try.underlying23 rfl rfl rfl sz23 (by rfl) (by first | omega | with_reducible assumption | (simp only [zb, zu, zw, zi, za]; omega) | (simp only [zs, zr, zm, za, zb, zu, zw, zi, zt, zd, zc, zn, *] <;> first | done | omega) | rfl)) ?_)
  refine qp_v (fun xs gs hx => q_buildS (tot := 65) (sizes := [32, 1, 32]) (c' := e.cells) (by kernel_rfl) rfl rfl rfl rfl (by simp only [List.map_cons, List.map_nil, cellsL, Value.cells, bys_length, lp, lk]; rfl) (by simp only [flatV, cellsL, Value.cells, List.map_cons, List.map_nil, List.flatten_cons, List.flatten_nil, List.append_nil]; rfl)) ?_
  refine qp_a (fun xs gs hx => q_litG [e.cells] Try.underlying39 in55 (by decide) (by decide) rfl rfl rfl (by intro v hv; rw [List.mem_singleton.1 hv]; exact lec)) ?_
  refine qp_append Try.underlying39 Try.underlying39 in55 rfl (by decide) (fun xs gs hx => rfl) (fun xs gs hx => rfl) (fun xs gs hx => (let ⟨b', e'⟩ := hx.2.2.1 rfl; ⟨_, _, congrArg some e', Reads.rowV 4 e' rfl⟩)) (fun xs gs hx => by first | omega | with_reducible assumption | (simp only [zb, zu, zw, zi, za]; omega) | (simp only [zs, zr, zm, za, zb, zu, zw, zi, zt, zd, zc, zn, *] <;> first | done | omega) | rfl) (fun xs gs hx => by first | (with_reducible first | exact bys_one _ | exact u32s_one _ | exact u64s_one _ | exact i64s_one _ | exact n64s_one _ | assumption) | exact bys_one _ | exact u32s_one _ | exact u64s_one _ | exact i64s_one _ | exact one_all rfl | (refine app_one ?_ ?_ <;> first | exact bys_one _ | exact one_all rfl | (simp; done))) (by first | omega | with_reducible assumption | (simp only [zb, zu, zw, zi, za]; omega) | (simp only [zs, zr, zm, za, zb, zu, zw, zi, zt, zd, zc, zn, *] <;> first | done | omega) | rfl) (by first | omega | with_reducible assumption | (simp only [zb, zu, zw, zi, za]; omega) | (simp only [zs, zr, zm, za, zb, zu, zw, zi, zt, zd, zc, zn, *] <;> first | done | omega) | rfl) ?_
  refine qp_end ?_
  intro xs gs hx
  obtain ⟨⟨b17, e17⟩, ⟨A22, c22, e22, hc22, hm22⟩, ⟨b27, e27⟩, ⟨A28, c28, e28, hc28, hm28⟩, _⟩ := hx
  simp only [selI, ownsA, List.contains_cons, List.contains_nil, Nat.reduceBEq, Nat.reduceAdd, Bool.or_false, Bool.or_true, Bool.false_or, Bool.true_or, mask, nRow, nBlk, nRowT, tupAt_0, tupAt_1, List.append_assoc, List.nil_append, List.append_nil, List.cons_append, List.singleton_append, e17, e22, e27, e28]
  refine VL.keep (Sub.cons (s := 0) rfl (Sub.cons (s := 1) rfl (Sub.cons (s := 2) rfl (Sub.cons (s := 3) rfl (Sub.cons (s := 5) rfl (Sub.cons (s := 7) rfl (Sub.cons (s := 8) rfl (Sub.cons (s := 10) rfl (Sub.cons (s := 15) rfl (Sub.cons (s := 16) rfl (Sub.cons (s := 28) rfl (Sub.nil _)))))))))))) ?_
  refine vl_v (q_nilck rfl) rfl ?_
  refine vl_v (q_fldA fo41_0 (by decide) rfl rfl) rfl ?_
  refine l_store1 2 rfl rfl rfl sz39 rfl (by first | decide | (simp; done) | first | omega | with_reducible assumption | (simp only [zb, zu, zw, zi, za]; omega) | (simp only [zs, zr, zm, za, zb, zu, zw, zi, zt, zd, zc, zn, *] <;> first | done | omega) | rfl) ?_
  simp only [List.set_cons_zero, List.set_cons_succ]
  refine vl_nil ?_
  refine (qn_n (th_n ?_))
  refine VC_seq ?_
  refine VC_seq ?_
  refine VC_region ?_
  refine vl_v (q_move rfl) rfl ?_
  refine vl_v (q_nilck rfl) rfl ?_
  refine vl_v (q_fldA fo41_0 (by decide) rfl rfl) rfl ?_
  refine vl_v (q_load 2 Try.underlying39 rfl rfl rfl rfl) rfl ?_
  refine vl_v (q_lenS Try.underlying39 rfl) rfl ?_
  refine vl_v (q_true (q_gtr_n (q := 8) Try.underlying3 rfl rfl) (by simp; omega)) rfl ?_
  refine vl_nil ?_
  refine (th_n ?_)
  refine VC_yes (rfl) ?_
  refine VC_region ?_
  refine vl_v (q_move rfl) rfl ?_
  refine vl_v (q_move rfl) rfl ?_
  refine vl_v (q_nilck rfl) rfl ?_
  refine vl_v (q_fldA fo41_0 (by decide) rfl rfl) rfl ?_
  refine vl_v (q_load 2 Try.underlying39 rfl rfl rfl rfl) rfl ?_
  refine vl_v (q_slcS (l := 1) Try.underlying39 sz55 rfl ⟨_, rfl⟩ rfl rfl (.inl rfl) (by omega) (by omega) (by omega)) rfl ?_
  refine vl_v (q_nilck rfl) rfl ?_
  refine vl_v (q_fldA fo41_0 (by decide) rfl rfl) rfl ?_
  refine l_store1 2 rfl rfl rfl sz39 rfl (by first | decide | (simp; done) | first | omega | with_reducible assumption | (simp only [zb, zu, zw, zi, za]; omega) | (simp only [zs, zr, zm, za, zb, zu, zw, zi, zt, zd, zc, zn, *] <;> first | done | omega) | rfl) ?_
  simp only [List.set_cons_zero, List.set_cons_succ]
  refine vl_nil ?_
  refine (th_n ?_)
  refine VC_seq ?_
  refine VC_region ?_
  refine vl_v (q_assign rfl) rfl ?_
  refine vl_nil ?_
  refine (th_n ?_)
  refine VC_ret ?_
  refine ⟨_, res1 rfl rfl, ?_⟩
  refine ⟨rfl, fun w' H' => ⟨PBYtngdppffcdhhlaa.adv A28 1 c28 65, c28 - 1, .row 55 65 (.slice A28 (0 + L.length + 1) c28) (0 + L.length + 1) ([].flatten ++ (keptC L ++ [e.cells].flatten)), fun w9 h9 => ?_, ?_, ?_⟩⟩
  rotate_right
  · have H2 := St.pick H' (ks := [2, 5]) (by decide) rfl
    rw [show 0 + L.length + 1 = L.length + 1 by omega] at H2
    rw [show ((L ++ [e]).eraseIdx 0).length = L.length + 1 - 1 by simp [List.length_eraseIdx], show 0 + L.length + 1 = L.length + 1 by omega]
    exact H2
  · have h10 := (Row.sl h9).dropIf (c := c28) (n := 1) (m := 1 * 65) (fun h => by omega)
    rw [kept_tail (by rw [List.length_append]; simp) hG2.ok]
    rw [keptC_append, show keptC [e] = [e.cells].flatten from rfl]
    exact h10
  · rw [show ((L ++ [e]).eraseIdx 0).length = L.length by simp [List.length_eraseIdx]]
    omega
end Go.Proofs.Ytngdppffcdhhlaa
