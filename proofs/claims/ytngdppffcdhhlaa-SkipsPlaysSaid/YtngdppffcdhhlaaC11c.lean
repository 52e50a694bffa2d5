/- What the functions of package skips do: a key is put. Conditions: at most so many are kept as memory bears. -/
import Derived.Test.YtngdppffcdhhlaaC11b
namespace Go.Proofs.Ytngdppffcdhhlaa
open Go.RowKit Go.PBYtngdppffcdhhlaa
set_option linter.unusedVariables false
set_option linter.unusedSimpArgs false
set_option maxRecDepth 10000

theorem SkR_snoc (b m : Nat) (o : Obj) (A : Option Addr) (c : Nat) (L : List Ent) (e : Ent) :
    SkR b m o A c (L ++ [e]) = [.blk b 49 [.map (some m), .slice A (L.length + 1) c], .obj m o, .row 51 33 (.slice A (L.length + 1) c) (L.length + 1) (ordC L ++ e.kc)] := by
  unfold SkR
  rw [ordC_snoc, List.length_append]
  rfl
set_option maxHeartbeats 2000000 in
theorem put_neg {S : List Nat} {w0 w : World} {b m : Nat} {o : Obj} {A : Option Addr} {c : Nat} {L : List Ent} (e : Ent) (lp : e.p.length = 32) (lk : e.k.length = 32) (hnw : (Lit.int .i64 e.n).wf = true) (H : St S w0 (SkR b m o A c L) w) (hE : MapOf o (mapE L)) (hG : GoodL L) (hneg : e.n < 0) :
    Calls Try.prog 10 #[vP b 0, .agg (bys e.p).toArray, vI e.n, .agg (bys e.k).toArray] w fun r w' => r = .returned (.int .i64 1) ∧ SkC S w0 b m L [] w' := by
  have lkc : e.kc.length = 33 := kc_length lp
  have okc : ∀ v ∈ e.kc, v.oneCell' = true := kc_one e.key
  replace H : St S w0 [.blk b 49 [.map (some m), .slice A L.length c], .obj m o, .row 51 33 (.slice A L.length c) L.length (ordC L)] w := H
  refine enter (n := 57) (R := fun r L' => r = .returned (.int .i64 1) ∧ ∀ w', St S w0 L' w' → SkC S w0 b m L [] w') [vP b 0, .agg (bys e.p).toArray, vI e.n, .agg (bys e.k).toArray] Try.func10 rfl rfl rfl H ?_ (fun e w' L' h H => ⟨h.1, h.2 w' H⟩)
  refine VC_seq ?_
  refine VC_region ?_
  refine l_boxA rfl rfl ?_
  intro b5
  refine l_boxA rfl rfl ?_
  intro b7
  refine vl_v (q_assign rfl) rfl ?_
  refine vl_nil ?_
  refine (th_n ?_)
  refine VC_seq ?_
  refine VC_region ?_
  first | (refine vl_v (q_loads 1 Try.underlying23 rfl rfl rfl sz23 (by first | omega | with_reducible assumption | (simp only [zb, zu, zw, zi, za]; omega) | (simp only [zs, zr, zm, za, zb, zu, zw, zi, zt, zd, zc, zn, *] <;> first | done | omega) | rfl)) rfl ?_) | (refine vl_v (q_loadsAt 1 Try.underlying23 rfl rfl rfl sz23 (by rfl) (by first | omega | with_reducible assumption | (simp only [zb, zu, zw, zi, za]; omega) | (simp only [zs, zr, zm, za, zb, zu, zw, zi, zt, zd, zc, zn, *] <;> first | done | omega) | rfl)) rfl ?_)
  refine vl_v (q_move rfl) rfl ?_
  refine vl_v (q_buildS (tot := 33) (sizes := [32, 1]) (c' := e.kc) (by kernel_rfl) rfl rfl rfl rfl (by simp only [List.map_cons, List.map_nil, cellsL, Value.cells, bys_length, lp]; rfl) (by simp only [flatV, cellsL, Value.cells, List.map_cons, List.map_nil, List.flatten_cons, List.flatten_nil, List.append_nil]; rfl)) rfl ?_
  refine l_allocA zr51 rfl ?_
  intro b9
  refine l_storeA 0 rfl rfl rfl sz51 (by first | omega | with_reducible assumption | (simp only [zb, zu, zw, zi, za]; omega) | (simp only [zs, zr, zm, za, zb, zu, zw, zi, zt, zd, zc, zn, *] <;> first | done | omega) | rfl) (by first | (with_reducible first | exact bys_one _ | exact u32s_one _ | exact u64s_one _ | exact i64s_one _ | exact n64s_one _ | assumption) | exact bys_one _ | exact u32s_one _ | exact u64s_one _ | exact i64s_one _ | exact one_all rfl | (refine app_one ?_ ?_ <;> first | exact bys_one _ | exact one_all rfl | (simp; done))) (by first | omega | with_reducible assumption | (simp only [zb, zu, zw, zi, za]; omega) | (simp only [zs, zr, zm, za, zb, zu, zw, zi, zt, zd, zc, zn, *] <;> first | done | omega) | rfl) ?_
  simp only [List.set_cons_zero, List.set_cons_succ]
  refine vl_nil ?_
  refine (th_n ?_)
  refine VC_seq ?_
  refine VC_seq ?_
  refine VC_region ?_
  refine vl_v (q_move rfl) rfl ?_
  refine vl_v (q_as (v := .bool true) (q_lss_k (q := 0) Try.underlying3 rfl rfl) (by simp; omega)) rfl ?_
  refine vl_nil ?_
  refine (th_n ?_)
  refine VC_yes (rfl) ?_
  refine VC_seq ?_
  refine VC_region ?_
  refine vl_v (q_assign rfl) rfl ?_
  refine vl_nil ?_
  refine (th_n ?_)
  refine VC_ret ?_
  refine (th_r ?_)
  refine ⟨_, res1 rfl rfl, ?_⟩
  exact ⟨rfl, fun w' H' => ⟨o, A, c, hE, St.pick H' (ks := [3, 4, 5]) (by decide) rfl⟩⟩
set_option maxHeartbeats 2000000 in
theorem put_twice {S : List Nat} {w0 w : World} {b m : Nat} {o : Obj} {A : Option Addr} {c : Nat} {L : List Ent} (e : Ent) (lp : e.p.length = 32) (lk : e.k.length = 32) (hnw : (Lit.int .i64 e.n).wf = true) (H : St S w0 (SkR b m o A c L) w) (hE : MapOf o (mapE L)) (hG : GoodL L) (hneg : ¬ e.n < 0) (hin : e.key ∈ L.map Ent.key) :
    Calls Try.prog 10 #[vP b 0, .agg (bys e.p).toArray, vI e.n, .agg (bys e.k).toArray] w fun r w' => r = .returned (.int .i64 9) ∧ SkC S w0 b m L [] w' := by
  have lkc : e.kc.length = 33 := kc_length lp
  have okc : ∀ v ∈ e.kc, v.oneCell' = true := kc_one e.key
  obtain ⟨ak, hask⟩ : ∃ ak, askR L e.key = (ak, true) := by
    obtain ⟨j, x, hj, hx⟩ := key_at hin
    exact ⟨x.k, by rw [← hx, askR_at hG hj]⟩
  have lak : ak.length = 32 := by have h := askR_length hG e.key; rw [hask] at h; exact h
  replace H : St S w0 [.blk b 49 [.map (some m), .slice A L.length c], .obj m o, .row 51 33 (.slice A L.length c) L.length (ordC L)] w := H
  refine enter (n := 57) (R := fun r L' => r = .returned (.int .i64 9) ∧ ∀ w', St S w0 L' w' → SkC S w0 b m L [] w') [vP b 0, .agg (bys e.p).toArray, vI e.n, .agg (bys e.k).toArray] Try.func10 rfl rfl rfl H ?_ (fun e w' L' h H => ⟨h.1, h.2 w' H⟩)
  refine VC_seq ?_
  refine VC_region ?_
  refine l_boxA rfl rfl ?_
  intro b5
  refine l_boxA rfl rfl ?_
  intro b7
  refine vl_v (q_assign rfl) rfl ?_
  refine vl_nil ?_
  refine (th_n ?_)
  refine VC_seq ?_
  refine VC_region ?_
  first | (refine vl_v (q_loads 1 Try.underlying23 rfl rfl rfl sz23 (by first | omega | with_reducible assumption | (simp only [zb, zu, zw, zi, za]; omega) | (simp only [zs, zr, zm, za, zb, zu, zw, zi, zt, zd, zc, zn, *] <;> first | done | omega) | rfl)) rfl ?_) | (refine vl_v (q_loadsAt 1 Try.underlying23 rfl rfl rfl sz23 (by rfl) (by first | omega | with_reducible assumption | (simp only [zb, zu, zw, zi, za]; omega) | (simp only [zs, zr, zm, za, zb, zu, zw, zi, zt, zd, zc, zn, *] <;> first | done | omega) | rfl)) rfl ?_)
  refine vl_v (q_move rfl) rfl ?_
  refine vl_v (q_buildS (tot := 33) (sizes := [32, 1]) (c' := e.kc) (by kernel_rfl) rfl rfl rfl rfl (by simp only [List.map_cons, List.map_nil, cellsL, Value.cells, bys_length, lp]; rfl) (by simp only [flatV, cellsL, Value.cells, List.map_cons, List.map_nil, List.flatten_cons, List.flatten_nil, List.append_nil]; rfl)) rfl ?_
  refine l_allocA zr51 rfl ?_
  intro b9
  refine l_storeA 0 rfl rfl rfl sz51 (by first | omega | with_reducible assumption | (simp only [zb, zu, zw, zi, za]; omega) | (simp only [zs, zr, zm, za, zb, zu, zw, zi, zt, zd, zc, zn, *] <;> first | done | omega) | rfl) (by first | (with_reducible first | exact bys_one _ | exact u32s_one _ | exact u64s_one _ | exact i64s_one _ | exact n64s_one _ | assumption) | exact bys_one _ | exact u32s_one _ | exact u64s_one _ | exact i64s_one _ | exact one_all rfl | (refine app_one ?_ ?_ <;> first | exact bys_one _ | exact one_all rfl | (simp; done))) (by first | omega | with_reducible assumption | (simp only [zb, zu, zw, zi, za]; omega) | (simp only [zs, zr, zm, za, zb, zu, zw, zi, zt, zd, zc, zn, *] <;> first | done | omega) | rfl) ?_
  simp only [List.set_cons_zero, List.set_cons_succ]
  refine vl_nil ?_
  refine (th_n ?_)
  refine VC_seq ?_
  refine VC_seq ?_
  refine VC_region ?_
  refine vl_v (q_move rfl) rfl ?_
  refine vl_v (q_as (v := .bool false) (q_lss_k (q := 0) Try.underlying3 rfl rfl) (by simp; omega)) rfl ?_
  refine vl_nil ?_
  refine (th_n ?_)
  refine VC_no (rfl) ?_
  refine VC_skip ?_
  refine (th_n ?_)
  refine VC_seq ?_
  refine VC_seq ?_
  refine VC_drawQ 11 6 [[], [0], [1], [2], [], [3, 4], [5], [6], [6], [], [9, 7, 0, 1, 2, 3, 4, 5, 6], [8, 10, 0, 1, 2, 3, 4, 5, 6, 7, 9]] [[], [0], [0, 1], [0, 1, 2], [], [0, 1, 2, 3, 4], [0, 1, 2, 3, 4, 5], [0, 1, 2, 3, 4, 5, 6], [0, 1, 2, 3, 4, 5, 6], [], [0, 1, 2, 3, 4, 5, 6, 7, 9], [0, 1, 2, 3, 4, 5, 6, 7, 8, 9, 10]] [([], [], [], [0, 1, 2, 3, 4, 5], []), ([0], [], [], [0, 1, 2, 3, 4, 5], [0]), ([0, 1], [], [], [0, 1, 2, 3, 4, 5], [0, 1]), ([0, 1, 2], [], [], [0, 1, 2, 3, 4, 5], [0, 1, 2]), ([], [], [], [0, 1, 2, 3, 4, 5], []), ([0, 1, 2, 3, 4], [], [], [0, 1, 2, 3, 4, 5], [0, 1, 2, 3, 4]), ([0, 1, 2, 3, 4, 5], [], [], [0, 1, 2, 3, 4, 5], [0, 1, 2, 3, 4, 5]), ([0, 1, 2, 3, 4, 5, 6], [], [], [0, 1, 2, 3, 4, 5], [0, 1, 2, 3, 4, 5, 6]), ([0, 1, 2, 3, 4, 5, 6], [], [], [0, 1, 2, 3, 4, 5], [0, 1, 2, 3, 4, 5, 6]), ([], [], [], [0, 1, 2, 3, 4, 5], []), ([0, 1, 2, 3, 4, 5, 6, 7, 9], [], [9], [0, 1, 2, 3, 4, 5], [0, 1, 2, 3, 4, 5, 6, 7])] [0, 1, 2, 3, 4, 5] [0, 1, 2, 3, 4, 5, 6, 7, 8, 10] rfl rfl (by kernel_rfl) ?_
  refine qp_v (fun xs gs hx => q_move rfl) ?_
  refine qp_v (fun xs gs hx => q_nilck rfl) ?_
  refine qp_v (fun xs gs hx => q_fldA fo49_0 (by decide) rfl rfl) ?_
  refine qp_v (fun xs gs hx => q_load 3 Try.underlying46 rfl rfl rfl rfl) ?_
  first | (refine qp_v (fun xs gs hx => q_loads 0 Try.underlying51 rfl rfl rfl sz51 (by first | omega | with_reducible assumption | (simp only [zb, zu, zw, zi, za]; omega) | (simp only [zs, zr, zm, za, zb, zu, zw, zi, zt, zd, zc, zn, *] <;> first | done | omega) | rfl)) ?_) | (refine qp_v (fun xs gs hx => q_loadsAt 0 Try.underlying51 rfl rfl rfl sz51 (by rfl) (by first | omega | with_reducible assumption | (simp only [zb, zu, zw, zi, za]; omega) | (simp only [zs, zr, zm, za, zb, zu, zw, zi, zt, zd, zc, zn, *] <;> first | done | omega) | rfl)) ?_)
  refine qp_v (fun xs gs hx => q_as (v := .tuple #[.agg (bys ak).toArray, .bool true]) (q_ask 4 e.key rfl hE hG lp hnw rfl rfl) (by rw [hask])) ?_
  refine qp_v (fun xs gs hx => q_move rfl) ?_
  refine qp_v (fun xs gs hx => q_ext rfl rfl) ?_
  refine qp_v (fun xs gs hx => q_ext rfl rfl) ?_
  refine qp_a (fun xs gs hx => q_alloc zr23 rfl) ?_
  refine qp_storeN (fun xs gs hx => rfl) (fun xs gs hx => hx.1 rfl) (fun xs gs hx => rfl) (fun xs gs hx => List.append_nil _) sz23 (fun xs gs hx => by first | omega | with_reducible assumption | (simp only [zb, zu, zw, zi, za]; omega) | (simp only [zs, zr, zm, za, zb, zu, zw, zi, zt, zd, zc, zn, *] <;> first | done | omega) | rfl) (fun xs gs hx => by first | (with_reducible first | exact bys_one _ | exact u32s_one _ | exact u64s_one _ | exact i64s_one _ | exact n64s_one _ | assumption) | exact bys_one _ | exact u32s_one _ | exact u64s_one _ | exact i64s_one _ | exact one_all rfl | (refine app_one ?_ ?_ <;> first | exact bys_one _ | exact one_all rfl | (simp; done))) (fun xs gs hx => by first | omega | with_reducible assumption | (simp only [zb, zu, zw, zi, za]; omega) | (simp only [zs, zr, zm, za, zb, zu, zw, zi, zt, zd, zc, zn, *] <;> first | done | omega) | rfl) ?_
  refine qp_end ?_
  intro xs gs hx
  obtain ⟨⟨b10, e10⟩, _, _⟩ := hx
  simp only [selI, ownsA, List.contains_cons, List.contains_nil, Nat.reduceBEq, Nat.reduceAdd, Bool.or_false, Bool.or_true, Bool.false_or, Bool.true_or, mask, nRow, nBlk, nRowT, tupAt_0, tupAt_1, List.append_assoc, List.nil_append, List.append_nil, List.cons_append, List.singleton_append, e10]
  refine VL.keep (Sub.cons (s := 0) rfl (Sub.cons (s := 1) rfl (Sub.cons (s := 2) rfl (Sub.cons (s := 3) rfl (Sub.cons (s := 5) rfl (Sub.cons (s := 7) rfl (Sub.cons (s := 8) rfl (Sub.cons (s := 9) rfl (Sub.cons (s := 16) rfl (Sub.cons (s := 25) rfl (Sub.nil _))))))))))) ?_
  refine vl_v (q_assign rfl) rfl ?_
  refine vl_nil ?_
  refine (qn_n (th_n ?_))
  refine VC_seq ?_
  refine VC_region ?_
  refine vl_v (q_move rfl) rfl ?_
  refine vl_nil ?_
  refine (th_n ?_)
  refine VC_yes (rfl) ?_
  refine VC_seq ?_
  refine VC_region ?_
  refine vl_v (q_assign rfl) rfl ?_
  refine vl_nil ?_
  refine (th_n ?_)
  refine VC_ret ?_
  refine (th_r ?_)
  refine ⟨_, res1 rfl rfl, ?_⟩
  exact ⟨rfl, fun w' H' => ⟨o, A, c, hE, St.pick H' (ks := [3, 4, 5]) (by decide) rfl⟩⟩
set_option maxHeartbeats 2000000 in
theorem put_new {S : List Nat} {w0 w : World} {b m : Nat} {o : Obj} {A : Option Addr} {c : Nat} {L : List Ent} (e : Ent) (lp : e.p.length = 32) (lk : e.k.length = 32) (hnw : (Lit.int .i64 e.n).wf = true) (H : St S w0 (SkR b m o A c L) w) (hE : MapOf o (mapE L)) (hG : GoodL L) (hneg : ¬ e.n < 0) (hno : e.key ∉ L.map Ent.key) (hl : L.length < 8) :
    Calls Try.prog 10 #[vP b 0, .agg (bys e.p).toArray, vI e.n, .agg (bys e.k).toArray] w fun r w' => r = .returned (.int .i64 0) ∧ SkC S w0 b m (L ++ [e]) [] w' := by
  have lkc : e.kc.length = 33 := kc_length lp
  have okc : ∀ v ∈ e.kc, v.oneCell' = true := kc_one e.key
  have hask := askR_no hno
  have lz : zKey.length = 32 := by simp [zKey]
  have hoc := ordC_length hG.ok
  have ooc : ∀ u ∈ ordC L, u.oneCell' = true := ordC_one
  have he : e.ok := ⟨lp, lk, hnw⟩
  have hG2 := hG.snoc he hno
  have hfl : ([e.kc].flatten).length = 1 * 33 := by simp [lkc]
  have hfe : [e.kc].flatten = e.kc := by simp
  have hfo : ∀ u ∈ [e.kc].flatten, u.oneCell' = true := by rw [hfe]; exact okc
  obtain ⟨l9, hl9⟩ := flatOf.key e.kc (fits_kc lp hnw)
  replace H : St S w0 [.blk b 49 [.map (some m), .slice A L.length c], .obj m o, .row 51 33 (.slice A L.length c) L.length (ordC L)] w := H
  refine enter (n := 57) (R := fun r L' => r = .returned (.int .i64 0) ∧ ∀ w', St S w0 L' w' → SkC S w0 b m (L ++ [e]) [] w') [vP b 0, .agg (bys e.p).toArray, vI e.n, .agg (bys e.k).toArray] Try.func10 rfl rfl rfl H ?_ (fun e w' L' h H => ⟨h.1, h.2 w' H⟩)
  refine VC_seq ?_
  refine VC_region ?_
  refine l_boxA rfl rfl ?_
  intro b5
  refine l_boxA rfl rfl ?_
  intro b7
  refine vl_v (q_assign rfl) rfl ?_
  refine vl_nil ?_
  refine (th_n ?_)
  refine VC_seq ?_
  refine VC_region ?_
  first | (refine vl_v (q_loads 1 Try.underlying23 rfl rfl rfl sz23 (by first | omega | with_reducible assumption | (simp only [zb, zu, zw, zi, za]; omega) | (simp only [zs, zr, zm, za, zb, zu, zw, zi, zt, zd, zc, zn, *] <;> first | done | omega) | rfl)) rfl ?_) | (refine vl_v (q_loadsAt 1 Try.underlying23 rfl rfl rfl sz23 (by rfl) (by first | omega | with_reducible assumption | (simp only [zb, zu, zw, zi, za]; omega) | (simp only [zs, zr, zm, za, zb, zu, zw, zi, zt, zd, zc, zn, *] <;> first | done | omega) | rfl)) rfl ?_)
  refine vl_v (q_move rfl) rfl ?_
  refine vl_v (q_buildS (tot := 33) (sizes := [32, 1]) (c' := e.kc) (by kernel_rfl) rfl rfl rfl rfl (by simp only [List.map_cons, List.map_nil, cellsL, Value.cells, bys_length, lp]; rfl) (by simp only [flatV, cellsL, Value.cells, List.map_cons, List.map_nil, List.flatten_cons, List.flatten_nil, List.append_nil]; rfl)) rfl ?_
  refine l_allocA zr51 rfl ?_
  intro b9
  refine l_storeA 0 rfl rfl rfl sz51 (by first | omega | with_reducible assumption | (simp only [zb, zu, zw, zi, za]; omega) | (simp only [zs, zr, zm, za, zb, zu, zw, zi, zt, zd, zc, zn, *] <;> first | done | omega) | rfl) (by first | (with_reducible first | exact bys_one _ | exact u32s_one _ | exact u64s_one _ | exact i64s_one _ | exact n64s_one _ | assumption) | exact bys_one _ | exact u32s_one _ | exact u64s_one _ | exact i64s_one _ | exact one_all rfl | (refine app_one ?_ ?_ <;> first | exact bys_one _ | exact one_all rfl | (simp; done))) (by first | omega | with_reducible assumption | (simp only [zb, zu, zw, zi, za]; omega) | (simp only [zs, zr, zm, za, zb, zu, zw, zi, zt, zd, zc, zn, *] <;> first | done | omega) | rfl) ?_
  simp only [List.set_cons_zero, List.set_cons_succ]
  refine vl_nil ?_
  refine (th_n ?_)
  refine VC_seq ?_
  refine VC_seq ?_
  refine VC_region ?_
  refine vl_v (q_move rfl) rfl ?_
  refine vl_v (q_as (v := .bool false) (q_lss_k (q := 0) Try.underlying3 rfl rfl) (by simp; omega)) rfl ?_
  refine vl_nil ?_
  refine (th_n ?_)
  refine VC_no (rfl) ?_
  refine VC_skip ?_
  refine (th_n ?_)
  refine VC_seq ?_
  refine VC_seq ?_
  refine VC_drawQ 11 6 [[], [0], [1], [2], [], [3, 4], [5], [6], [6], [], [9, 7, 0, 1, 2, 3, 4, 5, 6], [8, 10, 0, 1, 2, 3, 4, 5, 6, 7, 9]] [[], [0], [0, 1], [0, 1, 2], [], [0, 1, 2, 3, 4], [0, 1, 2, 3, 4, 5], [0, 1, 2, 3, 4, 5, 6], [0, 1, 2, 3, 4, 5, 6], [], [0, 1, 2, 3, 4, 5, 6, 7, 9], [0, 1, 2, 3, 4, 5, 6, 7, 8, 9, 10]] [([], [], [], [0, 1, 2, 3, 4, 5], []), ([0], [], [], [0, 1, 2, 3, 4, 5], [0]), ([0, 1], [], [], [0, 1, 2, 3, 4, 5], [0, 1]), ([0, 1, 2], [], [], [0, 1, 2, 3, 4, 5], [0, 1, 2]), ([], [], [], [0, 1, 2, 3, 4, 5], []), ([0, 1, 2, 3, 4], [], [], [0, 1, 2, 3, 4, 5], [0, 1, 2, 3, 4]), ([0, 1, 2, 3, 4, 5], [], [], [0, 1, 2, 3, 4, 5], [0, 1, 2, 3, 4, 5]), ([0, 1, 2, 3, 4, 5, 6], [], [], [0, 1, 2, 3, 4, 5], [0, 1, 2, 3, 4, 5, 6]), ([0, 1, 2, 3, 4, 5, 6], [], [], [0, 1, 2, 3, 4, 5], [0, 1, 2, 3, 4, 5, 6]), ([], [], [], [0, 1, 2, 3, 4, 5], []), ([0, 1, 2, 3, 4, 5, 6, 7, 9], [], [9], [0, 1, 2, 3, 4, 5], [0, 1, 2, 3, 4, 5, 6, 7])] [0, 1, 2, 3, 4, 5] [0, 1, 2, 3, 4, 5, 6, 7, 8, 10] rfl rfl (by kernel_rfl) ?_
  refine qp_v (fun xs gs hx => q_move rfl) ?_
  refine qp_v (fun xs gs hx => q_nilck rfl) ?_
  refine qp_v (fun xs gs hx => q_fldA fo49_0 (by decide) rfl rfl) ?_
  refine qp_v (fun xs gs hx => q_load 3 Try.underlying46 rfl rfl rfl rfl) ?_
  first | (refine qp_v (fun xs gs hx => q_loads 0 Try.underlying51 rfl rfl rfl sz51 (by first | omega | with_reducible assumption | (simp only [zb, zu, zw, zi, za]; omega) | (simp only [zs, zr, zm, za, zb, zu, zw, zi, zt, zd, zc, zn, *] <;> first | done | omega) | rfl)) ?_) | (refine qp_v (fun xs gs hx => q_loadsAt 0 Try.underlying51 rfl rfl rfl sz51 (by rfl) (by first | omega | with_reducible assumption | (simp only [zb, zu, zw, zi, za]; omega) | (simp only [zs, zr, zm, za, zb, zu, zw, zi, zt, zd, zc, zn, *] <;> first | done | omega) | rfl)) ?_)
  refine qp_v (fun xs gs hx => q_as (v := .tuple #[.agg (bys zKey).toArray, .bool false]) (q_ask 4 e.key rfl hE hG lp hnw rfl rfl) (by rw [hask])) ?_
  refine qp_v (fun xs gs hx => q_move rfl) ?_
  refine qp_v (fun xs gs hx => q_ext rfl rfl) ?_
  refine qp_v (fun xs gs hx => q_ext rfl rfl) ?_
  refine qp_a (fun xs gs hx => q_alloc zr23 rfl) ?_
  refine qp_storeN (fun xs gs hx => rfl) (fun xs gs hx => hx.1 rfl) (fun xs gs hx => rfl) (fun xs gs hx => List.append_nil _) sz23 (fun xs gs hx => by first | omega | with_reducible assumption | (simp only [zb, zu, zw, zi, za]; omega) | (simp only [zs, zr, zm, za, zb, zu, zw, zi, zt, zd, zc, zn, *] <;> first | done | omega) | rfl) (fun xs gs hx => by first | (with_reducible first | exact bys_one _ | exact u32s_one _ | exact u64s_one _ | exact i64s_one _ | exact n64s_one _ | assumption) | exact bys_one _ | exact u32s_one _ | exact u64s_one _ | exact i64s_one _ | exact one_all rfl | (refine app_one ?_ ?_ <;> first | exact bys_one _ | exact one_all rfl | (simp; done))) (fun xs gs hx => by first | omega | with_reducible assumption | (simp only [zb, zu, zw, zi, za]; omega) | (simp only [zs, zr, zm, za, zb, zu, zw, zi, zt, zd, zc, zn, *] <;> first | done | omega) | rfl) ?_
  refine qp_end ?_
  intro xs gs hx
  obtain ⟨⟨b10, e10⟩, _, _⟩ := hx
  simp only [selI, ownsA, List.contains_cons, List.contains_nil, Nat.reduceBEq, Nat.reduceAdd, Bool.or_false, Bool.or_true, Bool.false_or, Bool.true_or, mask, nRow, nBlk, nRowT, tupAt_0, tupAt_1, List.append_assoc, List.nil_append, List.append_nil, List.cons_append, List.singleton_append, e10]
  refine VL.keep (Sub.cons (s := 0) rfl (Sub.cons (s := 1) rfl (Sub.cons (s := 2) rfl (Sub.cons (s := 3) rfl (Sub.cons (s := 5) rfl (Sub.cons (s := 7) rfl (Sub.cons (s := 8) rfl (Sub.cons (s := 9) rfl (Sub.cons (s := 16) rfl (Sub.cons (s := 25) rfl (Sub.nil _))))))))))) ?_
  refine vl_v (q_assign rfl) rfl ?_
  refine vl_nil ?_
  refine (qn_n (th_n ?_))
  refine VC_seq ?_
  refine VC_region ?_
  refine vl_v (q_move rfl) rfl ?_
  refine vl_nil ?_
  refine (th_n ?_)
  refine VC_no (rfl) ?_
  refine VC_skip ?_
  refine (th_n ?_)
  refine VC_seq ?_
  refine VC_drawV 6 [[], [0], [1], [2], [], [], [3, 4, 5, 0, 1, 2]] [[], [0], [0, 1], [0, 1, 2], [], [], [0, 1, 2, 3, 4, 5]] rfl (by kernel_rfl) ?_
  refine qv_v (q_move rfl) ?_
  refine qv_v (q_nilck rfl) ?_
  refine qv_v (q_fldA fo49_0 (by decide) rfl rfl) ?_
  refine qv_v (q_load 3 Try.underlying46 rfl rfl rfl rfl) ?_
  first | (refine qv_v (q_loads 0 Try.underlying51 rfl rfl rfl sz51 (by first | omega | with_reducible assumption | (simp only [zb, zu, zw, zi, za]; omega) | (simp only [zs, zr, zm, za, zb, zu, zw, zi, zt, zd, zc, zn, *] <;> first | done | omega) | rfl)) ?_) | (refine qv_v (q_loadsAt 0 Try.underlying51 rfl rfl rfl sz51 (by rfl) (by first | omega | with_reducible assumption | (simp only [zb, zu, zw, zi, za]; omega) | (simp only [zs, zr, zm, za, zb, zu, zw, zi, zt, zd, zc, zn, *] <;> first | done | omega) | rfl)) ?_)
  first | (refine qv_v (q_loads 1 Try.underlying23 rfl rfl rfl sz23 (by first | omega | with_reducible assumption | (simp only [zb, zu, zw, zi, za]; omega) | (simp only [zs, zr, zm, za, zb, zu, zw, zi, zt, zd, zc, zn, *] <;> first | done | omega) | rfl)) ?_) | (refine qv_v (q_loadsAt 1 Try.underlying23 rfl rfl rfl sz23 (by rfl) (by first | omega | with_reducible assumption | (simp only [zb, zu, zw, zi, za]; omega) | (simp only [zs, zr, zm, za, zb, zu, zw, zi, zt, zd, zc, zn, *] <;> first | done | omega) | rfl)) ?_)
  refine qv_end ?_
  refine VL.keep (Sub.cons (s := 0) rfl (Sub.cons (s := 1) rfl (Sub.cons (s := 2) rfl (Sub.cons (s := 3) rfl (Sub.cons (s := 5) rfl (Sub.cons (s := 7) rfl (Sub.cons (s := 8) rfl (Sub.cons (s := 9) rfl (Sub.cons (s := 16) rfl (Sub.cons (s := 11) rfl (Sub.cons (s := 26) rfl (Sub.cons (s := 30) rfl (Sub.cons (s := 31) rfl (Sub.cons (s := 32) rfl (Sub.nil _))))))))))))))) ?_
  refine l_update 4 flatOf.law Try.underlying46 rfl rfl rfl rfl hE hl9 (mapE_keyed hG) (fun p hp hk => by obtain ⟨x, hx, rfl⟩ := List.mem_map.1 hp; have h7 : x.kc = e.kc := (by simpa using hk); exact hno (List.mem_map.2 ⟨x, hx, kc_inj h7⟩)) ?_
  intro o2 hE2
  rw [← mapE_snoc] at hE2
  simp only [List.set_cons_zero, List.set_cons_succ]
  refine vl_nil ?_
  refine (qn_n (th_n ?_))
  refine VC_seq ?_
  refine VC_drawQ 8 7 [[], [], [1], [2], [3], [], [5], [4, 6], [0, 1, 2, 3, 4, 5, 6, 7], [8, 0, 1, 2, 3, 4, 5, 6, 7], [9, 7, 0, 1, 2, 3, 4, 5, 6]] [[], [], [1], [1, 2], [1, 2, 3], [], [5], [1, 2, 3, 4, 5, 6], [0, 1, 2, 3, 4, 5, 6, 7], [0, 1, 2, 3, 4, 5, 6, 7, 8], [0, 1, 2, 3, 4, 5, 6, 7, 8, 9]] [([], [], [], [0, 1, 2, 3, 4, 6], []), ([], [], [], [0, 1, 2, 3, 4, 5, 6], []), ([1], [], [], [0, 1, 2, 3, 4, 5, 6], [1]), ([1, 2], [], [], [0, 1, 2, 3, 4, 5, 6], [1, 2]), ([1, 2, 3], [], [], [0, 1, 2, 3, 4, 5, 6], [1, 2, 3]), ([], [], [], [0, 1, 2, 3, 4, 5, 6], []), ([5], [], [], [0, 1, 2, 3, 4, 5, 6], [5]), ([1, 2, 3, 4, 5, 6], [5], [], [0, 1, 2, 3, 4, 6], [1, 2, 3, 4, 5, 6])] [0, 1, 2, 3, 4, 6] [0, 1, 2, 3, 4, 5, 6, 7] rfl rfl (by kernel_rfl) ?_
  refine qp_v (fun xs gs hx => q_move rfl) ?_
  refine qp_v (fun xs gs hx => q_move rfl) ?_
  refine qp_v (fun xs gs hx => q_nilck rfl) ?_
  refine qp_v (fun xs gs hx => q_fldA fo49_1 (by decide) rfl rfl) ?_
  refine qp_v (fun xs gs hx => q_load 3 Try.underlying47 rfl rfl rfl rfl) ?_
  first | (refine qp_v (fun xs gs hx => q_loads 0 Try.underlying51 rfl rfl rfl sz51 (by first | omega | with_reducible assumption | (simp only [zb, zu, zw, zi, za]; omega) | (simp only [zs, zr, zm, za, zb, zu, zw, zi, zt, zd, zc, zn, *] <;> first | done | omega) | rfl)) ?_) | (refine qp_v (fun xs gs hx => q_loadsAt 0 Try.underlying51 rfl rfl rfl sz51 (by rfl) (by first | omega | with_reducible assumption | (simp only [zb, zu, zw, zi, za]; omega) | (simp only [zs, zr, zm, za, zb, zu, zw, zi, zt, zd, zc, zn, *] <;> first | done | omega) | rfl)) ?_)
  refine qp_a (fun xs gs hx => q_litG [e.kc] Try.underlying47 in51 (by decide) (by decide) rfl rfl rfl (by intro v hv; rw [List.mem_singleton.1 hv]; exact lkc)) ?_
  refine qp_append Try.underlying47 Try.underlying47 in51 rfl (by decide) (fun xs gs hx => rfl) (fun xs gs hx => rfl) (fun xs gs hx => (let ⟨b', e'⟩ := hx.1 rfl; ⟨_, _, congrArg some e', Reads.rowV 6 e' rfl⟩)) (fun xs gs hx => by first | omega | with_reducible assumption | (simp only [zb, zu, zw, zi, za]; omega) | (simp only [zs, zr, zm, za, zb, zu, zw, zi, zt, zd, zc, zn, *] <;> first | done | omega) | rfl) (fun xs gs hx => by first | (with_reducible first | exact bys_one _ | exact u32s_one _ | exact u64s_one _ | exact i64s_one _ | exact n64s_one _ | assumption) | exact bys_one _ | exact u32s_one _ | exact u64s_one _ | exact i64s_one _ | exact one_all rfl | (refine app_one ?_ ?_ <;> first | exact bys_one _ | exact one_all rfl | (simp; done))) (by first | omega | with_reducible assumption | (simp only [zb, zu, zw, zi, za]; omega) | (simp only [zs, zr, zm, za, zb, zu, zw, zi, zt, zd, zc, zn, *] <;> first | done | omega) | rfl) (by first | omega | with_reducible assumption | (simp only [zb, zu, zw, zi, za]; omega) | (simp only [zs, zr, zm, za, zb, zu, zw, zi, zt, zd, zc, zn, *] <;> first | done | omega) | rfl) ?_
  refine qp_end ?_
  intro xs gs hx
  obtain ⟨⟨b39, e39⟩, ⟨A40, c40, e40, hc40, hm40⟩, _⟩ := hx
  simp only [selI, ownsA, List.contains_cons, List.contains_nil, Nat.reduceBEq, Nat.reduceAdd, Bool.or_false, Bool.or_true, Bool.false_or, Bool.true_or, mask, nRow, nBlk, nRowT, tupAt_0, tupAt_1, List.append_assoc, List.nil_append, List.append_nil, List.cons_append, List.singleton_append, e39, e40]
  refine VL.keep (Sub.cons (s := 0) rfl (Sub.cons (s := 1) rfl (Sub.cons (s := 2) rfl (Sub.cons (s := 3) rfl (Sub.cons (s := 5) rfl (Sub.cons (s := 7) rfl (Sub.cons (s := 8) rfl (Sub.cons (s := 9) rfl (Sub.cons (s := 16) rfl (Sub.cons (s := 11) rfl (Sub.cons (s := 26) rfl (Sub.cons (s := 33) rfl (Sub.cons (s := 40) rfl (Sub.nil _)))))))))))))) ?_
  refine vl_v (q_nilck rfl) rfl ?_
  refine vl_v (q_fldA fo49_1 (by decide) rfl rfl) rfl ?_
  refine l_store1 3 rfl rfl rfl sz47 rfl (by first | decide | (simp; done) | first | omega | with_reducible assumption | (simp only [zb, zu, zw, zi, za]; omega) | (simp only [zs, zr, zm, za, zb, zu, zw, zi, zt, zd, zc, zn, *] <;> first | done | omega) | rfl) ?_
  simp only [List.set_cons_zero, List.set_cons_succ]
  refine vl_nil ?_
  refine (qn_n (th_n ?_))
  refine VC_seq ?_
  refine VC_seq ?_
  simp only [hfe]
  refine VC_region ?_
  refine vl_v (q_move rfl) rfl ?_
  refine vl_v (q_nilck rfl) rfl ?_
  refine vl_v (q_fldA fo49_1 (by decide) rfl rfl) rfl ?_
  refine vl_v (q_load 3 Try.underlying47 rfl rfl rfl rfl) rfl ?_
  refine vl_v (q_lenS Try.underlying47 rfl) rfl ?_
  refine vl_v (q_false (q_gtr_n (q := 8) Try.underlying3 rfl rfl) (by simp; omega)) rfl ?_
  refine vl_nil ?_
  refine (th_n ?_)
  refine VC_no (rfl) ?_
  refine VC_skip ?_
  refine (th_n ?_)
  refine VC_seq ?_
  refine VC_region ?_
  refine vl_v (q_assign rfl) rfl ?_
  refine vl_nil ?_
  refine (th_n ?_)
  refine VC_ret ?_
  refine ⟨_, res1 rfl rfl, ?_⟩
  exact ⟨rfl, fun w' H' => ⟨o2, A40, c40, hE2, by rw [SkR_snoc]; exact St.pick H' (ks := [3, 4, 7]) (by decide) rfl⟩⟩
set_option maxHeartbeats 2000000 in
theorem put_full {S : List Nat} {w0 w : World} {b m : Nat} {o : Obj} {A : Option Addr} {c : Nat} {L : List Ent} (e : Ent) (lp : e.p.length = 32) (lk : e.k.length = 32) (hnw : (Lit.int .i64 e.n).wf = true) (H : St S w0 (SkR b m o A c L) w) (hE : MapOf o (mapE L)) (hG : GoodL L) (hneg : ¬ e.n < 0) (hno : e.key ∉ L.map Ent.key) (hl : L.length = 8) :
    Calls Try.prog 10 #[vP b 0, .agg (bys e.p).toArray, vI e.n, .agg (bys e.k).toArray] w fun r w' => r = .returned (.int .i64 0) ∧ SkC S w0 b m ((L ++ [e]).eraseIdx 0) [] w' := by
  have lkc : e.kc.length = 33 := kc_length lp
  have okc : ∀ v ∈ e.kc, v.oneCell' = true := kc_one e.key
  have hask := askR_no hno
  obtain ⟨e0, h00⟩ : ∃ e0, (L ++ [e])[0]? = some e0 := ⟨_, List.getElem?_eq_getElem (by simp)⟩
  have lz : zKey.length = 32 := by simp [zKey]
  have hoc := ordC_length hG.ok
  have ooc : ∀ u ∈ ordC L, u.oneCell' = true := ordC_one
  have he : e.ok := ⟨lp, lk, hnw⟩
  have hG2 := hG.snoc he hno
  have hfl : ([e.kc].flatten).length = 1 * 33 := by simp [lkc]
  have hfe : [e.kc].flatten = e.kc := by simp
  have hfo : ∀ u ∈ [e.kc].flatten, u.oneCell' = true := by rw [hfe]; exact okc
  obtain ⟨l9, hl9⟩ := flatOf.key e.kc (fits_kc lp hnw)
  replace H : St S w0 [.blk b 49 [.map (some m), .slice A L.length c], .obj m o, .row 51 33 (.slice A L.length c) L.length (ordC L)] w := H
  refine enter (n := 57) (R := fun r L' => r = .returned (.int .i64 0) ∧ ∀ w', St S w0 L' w' → SkC S w0 b m ((L ++ [e]).eraseIdx 0) [] w') [vP b 0, .agg (bys e.p).toArray, vI e.n, .agg (bys e.k).toArray] Try.func10 rfl rfl rfl H ?_ (fun e w' L' h H => ⟨h.1, h.2 w' H⟩)
  refine VC_seq ?_
  refine VC_region ?_
  refine l_boxA rfl rfl ?_
  intro b5
  refine l_boxA rfl rfl ?_
  intro b7
  refine vl_v (q_assign rfl) rfl ?_
  refine vl_nil ?_
  refine (th_n ?_)
  refine VC_seq ?_
  refine VC_region ?_
  first | (refine vl_v (q_loads 1 Try.underlying23 rfl rfl rfl sz23 (by first | omega | with_reducible assumption | (simp only [zb, zu, zw, zi, za]; omega) | (simp only [zs, zr, zm, za, zb, zu, zw, zi, zt, zd, zc, zn, *] <;> first | done | omega) | rfl)) rfl ?_) | (refine vl_v (q_loadsAt 1 Try.underlying23 rfl rfl rfl sz23 (by rfl) (by first | omega | with_reducible assumption | (simp only [zb, zu, zw, zi, za]; omega) | (simp only [zs, zr, zm, za, zb, zu, zw, zi, zt, zd, zc, zn, *] <;> first | done | omega) | rfl)) rfl ?_)
  refine vl_v (q_move rfl) rfl ?_
  refine vl_v (q_buildS (tot := 33) (sizes := [32, 1]) (c' := e.kc) (by kernel_rfl) rfl rfl rfl rfl (by simp only [List.map_cons, List.map_nil, cellsL, Value.cells, bys_length, lp]; rfl) (by simp only [flatV, cellsL, Value.cells, List.map_cons, List.map_nil, List.flatten_cons, List.flatten_nil, List.append_nil]; rfl)) rfl ?_
  refine l_allocA zr51 rfl ?_
  intro b9
  refine l_storeA 0 rfl rfl rfl sz51 (by first | omega | with_reducible assumption | (simp only [zb, zu, zw, zi, za]; omega) | (simp only [zs, zr, zm, za, zb, zu, zw, zi, zt, zd, zc, zn, *] <;> first | done | omega) | rfl) (by first | (with_reducible first | exact bys_one _ | exact u32s_one _ | exact u64s_one _ | exact i64s_one _ | exact n64s_one _ | assumption) | exact bys_one _ | exact u32s_one _ | exact u64s_one _ | exact i64s_one _ | exact one_all rfl | (refine app_one ?_ ?_ <;> first | exact bys_one _ | exact one_all rfl | (simp; done))) (by first | omega | with_reducible assumption | (simp only [zb, zu, zw, zi, za]; omega) | (simp only [zs, zr, zm, za, zb, zu, zw, zi, zt, zd, zc, zn, *] <;> first | done | omega) | rfl) ?_
  simp only [List.set_cons_zero, List.set_cons_succ]
  refine vl_nil ?_
  refine (th_n ?_)
  refine VC_seq ?_
  refine VC_seq ?_
  refine VC_region ?_
  refine vl_v (q_move rfl) rfl ?_
  refine vl_v (q_as (v := .bool false) (q_lss_k (q := 0) Try.underlying3 rfl rfl) (by simp; omega)) rfl ?_
  refine vl_nil ?_
  refine (th_n ?_)
  refine VC_no (rfl) ?_
  refine VC_skip ?_
  refine (th_n ?_)
  refine VC_seq ?_
  refine VC_seq ?_
  refine VC_drawQ 11 6 [[], [0], [1], [2], [], [3, 4], [5], [6], [6], [], [9, 7, 0, 1, 2, 3, 4, 5, 6], [8, 10, 0, 1, 2, 3, 4, 5, 6, 7, 9]] [[], [0], [0, 1], [0, 1, 2], [], [0, 1, 2, 3, 4], [0, 1, 2, 3, 4, 5], [0, 1, 2, 3, 4, 5, 6], [0, 1, 2, 3, 4, 5, 6], [], [0, 1, 2, 3, 4, 5, 6, 7, 9], [0, 1, 2, 3, 4, 5, 6, 7, 8, 9, 10]] [([], [], [], [0, 1, 2, 3, 4, 5], []), ([0], [], [], [0, 1, 2, 3, 4, 5], [0]), ([0, 1], [], [], [0, 1, 2, 3, 4, 5], [0, 1]), ([0, 1, 2], [], [], [0, 1, 2, 3, 4, 5], [0, 1, 2]), ([], [], [], [0, 1, 2, 3, 4, 5], []), ([0, 1, 2, 3, 4], [], [], [0, 1, 2, 3, 4, 5], [0, 1, 2, 3, 4]), ([0, 1, 2, 3, 4, 5], [], [], [0, 1, 2, 3, 4, 5], [0, 1, 2, 3, 4, 5]), ([0, 1, 2, 3, 4, 5, 6], [], [], [0, 1, 2, 3, 4, 5], [0, 1, 2, 3, 4, 5, 6]), ([0, 1, 2, 3, 4, 5, 6], [], [], [0, 1, 2, 3, 4, 5], [0, 1, 2, 3, 4, 5, 6]), ([], [], [], [0, 1, 2, 3, 4, 5], []), ([0, 1, 2, 3, 4, 5, 6, 7, 9], [], [9], [0, 1, 2, 3, 4, 5], [0, 1, 2, 3, 4, 5, 6, 7])] [0, 1, 2, 3, 4, 5] [0, 1, 2, 3, 4, 5, 6, 7, 8, 10] rfl rfl (by kernel_rfl) ?_
  refine qp_v (fun xs gs hx => q_move rfl) ?_
  refine qp_v (fun xs gs hx => q_nilck rfl) ?_
  refine qp_v (fun xs gs hx => q_fldA fo49_0 (by decide) rfl rfl) ?_
  refine qp_v (fun xs gs hx => q_load 3 Try.underlying46 rfl rfl rfl rfl) ?_
  first | (refine qp_v (fun xs gs hx => q_loads 0 Try.underlying51 rfl rfl rfl sz51 (by first | omega | with_reducible assumption | (simp only [zb, zu, zw, zi, za]; omega) | (simp only [zs, zr, zm, za, zb, zu, zw, zi, zt, zd, zc, zn, *] <;> first | done | omega) | rfl)) ?_) | (refine qp_v (fun xs gs hx => q_loadsAt 0 Try.underlying51 rfl rfl rfl sz51 (by rfl) (by first | omega | with_reducible assumption | (simp only [zb, zu, zw, zi, za]; omega) | (simp only [zs, zr, zm, za, zb, zu, zw, zi, zt, zd, zc, zn, *] <;> first | done | omega) | rfl)) ?_)
  refine qp_v (fun xs gs hx => q_as (v := .tuple #[.agg (bys zKey).toArray, .bool false]) (q_ask 4 e.key rfl hE hG lp hnw rfl rfl) (by rw [hask])) ?_
  refine qp_v (fun xs gs hx => q_move rfl) ?_
  refine qp_v (fun xs gs hx => q_ext rfl rfl) ?_
  refine qp_v (fun xs gs hx => q_ext rfl rfl) ?_
  refine qp_a (fun xs gs hx => q_alloc zr23 rfl) ?_
  refine qp_storeN (fun xs gs hx => rfl) (fun xs gs hx => hx.1 rfl) (fun xs gs hx => rfl) (fun xs gs hx => List.append_nil _) sz23 (fun xs gs hx => by first | omega | with_reducible assumption | (simp only [zb, zu, zw, zi, za]; omega) | (simp only [zs, zr, zm, za, zb, zu, zw, zi, zt, zd, zc, zn, *] <;> first | done | omega) | rfl) (fun xs gs hx => by first | (with_reducible first | exact bys_one _ | exact u32s_one _ | exact u64s_one _ | exact i64s_one _ | exact n64s_one _ | assumption) | exact bys_one _ | exact u32s_one _ | exact u64s_one _ | exact i64s_one _ | exact one_all rfl | (refine app_one ?_ ?_ <;> first | exact bys_one _ | exact one_all rfl | (simp; done))) (fun xs gs hx => by first | omega | with_reducible assumption | (simp only [zb, zu, zw, zi, za]; omega) | (simp only [zs, zr, zm, za, zb, zu, zw, zi, zt, zd, zc, zn, *] <;> first | done | omega) | rfl) ?_
  refine qp_end ?_
  intro xs gs hx
  obtain ⟨⟨b10, e10⟩, _, _⟩ := hx
  simp only [selI, ownsA, List.contains_cons, List.contains_nil, Nat.reduceBEq, Nat.reduceAdd, Bool.or_false, Bool.or_true, Bool.false_or, Bool.true_or, mask, nRow, nBlk, nRowT, tupAt_0, tupAt_1, List.append_assoc, List.nil_append, List.append_nil, List.cons_append, List.singleton_append, e10]
  refine VL.keep (Sub.cons (s := 0) rfl (Sub.cons (s := 1) rfl (Sub.cons (s := 2) rfl (Sub.cons (s := 3) rfl (Sub.cons (s := 5) rfl (Sub.cons (s := 7) rfl (Sub.cons (s := 8) rfl (Sub.cons (s := 9) rfl (Sub.cons (s := 16) rfl (Sub.cons (s := 25) rfl (Sub.nil _))))))))))) ?_
  refine vl_v (q_assign rfl) rfl ?_
  refine vl_nil ?_
  refine (qn_n (th_n ?_))
  refine VC_seq ?_
  refine VC_region ?_
  refine vl_v (q_move rfl) rfl ?_
  refine vl_nil ?_
  refine (th_n ?_)
  refine VC_no (rfl) ?_
  refine VC_skip ?_
  refine (th_n ?_)
  refine VC_seq ?_
  refine VC_drawV 6 [[], [0], [1], [2], [], [], [3, 4, 5, 0, 1, 2]] [[], [0], [0, 1], [0, 1, 2], [], [], [0, 1, 2, 3, 4, 5]] rfl (by kernel_rfl) ?_
  refine qv_v (q_move rfl) ?_
  refine qv_v (q_nilck rfl) ?_
  refine qv_v (q_fldA fo49_0 (by decide) rfl rfl) ?_
  refine qv_v (q_load 3 Try.underlying46 rfl rfl rfl rfl) ?_
  first | (refine qv_v (q_loads 0 Try.underlying51 rfl rfl rfl sz51 (by first | omega | with_reducible assumption | (simp only [zb, zu, zw, zi, za]; omega) | (simp only [zs, zr, zm, za, zb, zu, zw, zi, zt, zd, zc, zn, *] <;> first | done | omega) | rfl)) ?_) | (refine qv_v (q_loadsAt 0 Try.underlying51 rfl rfl rfl sz51 (by rfl) (by first | omega | with_reducible assumption | (simp only [zb, zu, zw, zi, za]; omega) | (simp only [zs, zr, zm, za, zb, zu, zw, zi, zt, zd, zc, zn, *] <;> first | done | omega) | rfl)) ?_)
  first | (refine qv_v (q_loads 1 Try.underlying23 rfl rfl rfl sz23 (by first | omega | with_reducible assumption | (simp only [zb, zu, zw, zi, za]; omega) | (simp only [zs, zr, zm, za, zb, zu, zw, zi, zt, zd, zc, zn, *] <;> first | done | omega) | rfl)) ?_) | (refine qv_v (q_loadsAt 1 Try.underlying23 rfl rfl rfl sz23 (by rfl) (by first | omega | with_reducible assumption | (simp only [zb, zu, zw, zi, za]; omega) | (simp only [zs, zr, zm, za, zb, zu, zw, zi, zt, zd, zc, zn, *] <;> first | done | omega) | rfl)) ?_)
  refine qv_end ?_
  refine VL.keep (Sub.cons (s := 0) rfl (Sub.cons (s := 1) rfl (Sub.cons (s := 2) rfl (Sub.cons (s := 3) rfl (Sub.cons (s := 5) rfl (Sub.cons (s := 7) rfl (Sub.cons (s := 8) rfl (Sub.cons (s := 9) rfl (Sub.cons (s := 16) rfl (Sub.cons (s := 11) rfl (Sub.cons (s := 26) rfl (Sub.cons (s := 30) rfl (Sub.cons (s := 31) rfl (Sub.cons (s := 32) rfl (Sub.nil _))))))))))))))) ?_
  refine l_update 4 flatOf.law Try.underlying46 rfl rfl rfl rfl hE hl9 (mapE_keyed hG) (fun p hp hk => by obtain ⟨x, hx, rfl⟩ := List.mem_map.1 hp; have h7 : x.kc = e.kc := (by simpa using hk); exact hno (List.mem_map.2 ⟨x, hx, kc_inj h7⟩)) ?_
  intro o2 hE2
  rw [← mapE_snoc] at hE2
  simp only [List.set_cons_zero, List.set_cons_succ]
  refine vl_nil ?_
  refine (qn_n (th_n ?_))
  refine VC_seq ?_
  refine VC_drawQ 8 7 [[], [], [1], [2], [3], [], [5], [4, 6], [0, 1, 2, 3, 4, 5, 6, 7], [8, 0, 1, 2, 3, 4, 5, 6, 7], [9, 7, 0, 1, 2, 3, 4, 5, 6]] [[], [], [1], [1, 2], [1, 2, 3], [], [5], [1, 2, 3, 4, 5, 6], [0, 1, 2, 3, 4, 5, 6, 7], [0, 1, 2, 3, 4, 5, 6, 7, 8], [0, 1, 2, 3, 4, 5, 6, 7, 8, 9]] [([], [], [], [0, 1, 2, 3, 4, 6], []), ([], [], [], [0, 1, 2, 3, 4, 5, 6], []), ([1], [], [], [0, 1, 2, 3, 4, 5, 6], [1]), ([1, 2], [], [], [0, 1, 2, 3, 4, 5, 6], [1, 2]), ([1, 2, 3], [], [], [0, 1, 2, 3, 4, 5, 6], [1, 2, 3]), ([], [], [], [0, 1, 2, 3, 4, 5, 6], []), ([5], [], [], [0, 1, 2, 3, 4, 5, 6], [5]), ([1, 2, 3, 4, 5, 6], [5], [], [0, 1, 2, 3, 4, 6], [1, 2, 3, 4, 5, 6])] [0, 1, 2, 3, 4, 6] [0, 1, 2, 3, 4, 5, 6, 7] rfl rfl (by kernel_rfl) ?_
  refine qp_v (fun xs gs hx => q_move rfl) ?_
  refine qp_v (fun xs gs hx => q_move rfl) ?_
  refine qp_v (fun xs gs hx => q_nilck rfl) ?_
  refine qp_v (fun xs gs hx => q_fldA fo49_1 (by decide) rfl rfl) ?_
  refine qp_v (fun xs gs hx => q_load 3 Try.underlying47 rfl rfl rfl rfl) ?_
  first | (refine qp_v (fun xs gs hx => q_loads 0 Try.underlying51 rfl rfl rfl sz51 (by first | omega | with_reducible assumption | (simp only [zb, zu, zw, zi, za]; omega) | (simp only [zs, zr, zm, za, zb, zu, zw, zi, zt, zd, zc, zn, *] <;> first | done | omega) | rfl)) ?_) | (refine qp_v (fun xs gs hx => q_loadsAt 0 Try.underlying51 rfl rfl rfl sz51 (by rfl) (by first | omega | with_reducible assumption | (simp only [zb, zu, zw, zi, za]; omega) | (simp only [zs, zr, zm, za, zb, zu, zw, zi, zt, zd, zc, zn, *] <;> first | done | omega) | rfl)) ?_)
  refine qp_a (fun xs gs hx => q_litG [e.kc] Try.underlying47 in51 (by decide) (by decide) rfl rfl rfl (by intro v hv; rw [List.mem_singleton.1 hv]; exact lkc)) ?_
  refine qp_append Try.underlying47 Try.underlying47 in51 rfl (by decide) (fun xs gs hx => rfl) (fun xs gs hx => rfl) (fun xs gs hx => (let ⟨b', e'⟩ := hx.1 rfl; ⟨_, _, congrArg some e', Reads.rowV 6 e' rfl⟩)) (fun xs gs hx => by first | omega | with_reducible assumption | (simp only [zb, zu, zw, zi, za]; omega) | (simp only [zs, zr, zm, za, zb, zu, zw, zi, zt, zd, zc, zn, *] <;> first | done | omega) | rfl) (fun xs gs hx => by first | (with_reducible first | exact bys_one _ | exact u32s_one _ | exact u64s_one _ | exact i64s_one _ | exact n64s_one _ | assumption) | exact bys_one _ | exact u32s_one _ | exact u64s_one _ | exact i64s_one _ | exact one_all rfl | (refine app_one ?_ ?_ <;> first | exact bys_one _ | exact one_all rfl | (simp; done))) (by first | omega | with_reducible assumption | (simp only [zb, zu, zw, zi, za]; omega) | (simp only [zs, zr, zm, za, zb, zu, zw, zi, zt, zd, zc, zn, *] <;> first | done | omega) | rfl) (by first | omega | with_reducible assumption | (simp only [zb, zu, zw, zi, za]; omega) | (simp only [zs, zr, zm, za, zb, zu, zw, zi, zt, zd, zc, zn, *] <;> first | done | omega) | rfl) ?_
  refine qp_end ?_
  intro xs gs hx
  obtain ⟨⟨b39, e39⟩, ⟨A40, c40, e40, hc40, hm40⟩, _⟩ := hx
  simp only [selI, ownsA, List.contains_cons, List.contains_nil, Nat.reduceBEq, Nat.reduceAdd, Bool.or_false, Bool.or_true, Bool.false_or, Bool.true_or, mask, nRow, nBlk, nRowT, tupAt_0, tupAt_1, List.append_assoc, List.nil_append, List.append_nil, List.cons_append, List.singleton_append, e39, e40]
  refine VL.keep (Sub.cons (s := 0) rfl (Sub.cons (s := 1) rfl (Sub.cons (s := 2) rfl (Sub.cons (s := 3) rfl (Sub.cons (s := 5) rfl (Sub.cons (s := 7) rfl (Sub.cons (s := 8) rfl (Sub.cons (s := 9) rfl (Sub.cons (s := 16) rfl (Sub.cons (s := 11) rfl (Sub.cons (s := 26) rfl (Sub.cons (s := 33) rfl (Sub.cons (s := 40) rfl (Sub.nil _)))))))))))))) ?_
  refine vl_v (q_nilck rfl) rfl ?_
  refine vl_v (q_fldA fo49_1 (by decide) rfl rfl) rfl ?_
  refine l_store1 3 rfl rfl rfl sz47 rfl (by first | decide | (simp; done) | first | omega | with_reducible assumption | (simp only [zb, zu, zw, zi, za]; omega) | (simp only [zs, zr, zm, za, zb, zu, zw, zi, zt, zd, zc, zn, *] <;> first | done | omega) | rfl) ?_
  simp only [List.set_cons_zero, List.set_cons_succ]
  refine vl_nil ?_
  refine (qn_n (th_n ?_))
  refine VC_seq ?_
  refine VC_seq ?_
  simp only [hfe]
  refine VC_region ?_
  refine vl_v (q_move rfl) rfl ?_
  refine vl_v (q_nilck rfl) rfl ?_
  refine vl_v (q_fldA fo49_1 (by decide) rfl rfl) rfl ?_
  refine vl_v (q_load 3 Try.underlying47 rfl rfl rfl rfl) rfl ?_
  refine vl_v (q_lenS Try.underlying47 rfl) rfl ?_
  refine vl_v (q_true (q_gtr_n (q := 8) Try.underlying3 rfl rfl) (decide_eq_true (by omega))) rfl ?_
  refine vl_nil ?_
  refine (th_n ?_)
  refine VC_yes (rfl) ?_
  refine VC_pickL (ks := [3, 4, 7, 0, 1, 2, 5, 6]) (by decide) rfl ?_
  refine VC_region ?_
  refine vl_v (q_move rfl) rfl ?_
  refine vl_v (q_move rfl) rfl ?_
  refine vl_v (q_nilck rfl) rfl ?_
  refine vl_v (q_fldA fo49_1 (by decide) rfl rfl) rfl ?_
  refine vl_v (q_load 0 Try.underlying47 rfl rfl rfl rfl) rfl ?_
  refine vl_v (q_idxRdN (m := 0) Try.underlying47 sz51 rfl rfl (by omega) (Reads.row 2 rfl) (by rw [List.length_append, hoc, lkc]; omega)) rfl ?_
  refine vl_v (q_loadsRd (us := e0.kc) Try.underlying51 rfl sz51 rfl (Reads.row 2 rfl) (by rw [← ordC_snoc]; exact ordC_part hG2.ok h00) (kc_length (hG2.ok e0 (List.mem_of_getElem? h00)).p) (by decide)) rfl ?_
  refine l_call (F := fun v L' => v = .tuple #[] ∧ ∃ o' A' c', MapOf o' (mapE ((L ++ [e]).eraseIdx 0)) ∧ L' = SkR b m o' A' c' ((L ++ [e]).eraseIdx 0) ++ [.blk b9 51 e.kc, .blk b7 23 (bys e.k), .blk b5 23 (bys e.p), .blk b10 23 (bys zKey), .row 51 33 (.slice (some ⟨b39, 0, none⟩) 1 1) 1 e.kc]) Try.func16 rfl rfl rfl (fun w1 H1 => (drop_calls 0 e0 (by show St S w0 (SkR b m o2 A40 c40 (L ++ [e]) ++ [.blk b9 51 e.kc, .blk b7 23 (bys e.k), .blk b5 23 (bys e.p), .blk b10 23 (bys zKey), .row 51 33 (.slice (some ⟨b39, 0, none⟩) 1 1) 1 e.kc]) w1; rw [SkR_snoc]; exact H1) hE2 hG2 h00 (by simp; omega)).mono fun r w' h => ?_) rfl ?_
  · obtain ⟨h1, o', v', hE', h2⟩ := h
    obtain ⟨A', c', rfl, _⟩ := Row.slice (h2.get (k := 2) rfl)
    exact ⟨_, _, h1, ⟨rfl, o', A', c', hE', rfl⟩, h2⟩
  rintro v L' ⟨rfl, o', A', c', hE', rfl⟩
  simp only [SkR, List.cons_append, List.nil_append]
  refine vl_nil ?_
  refine (th_n ?_)
  refine VC_seq ?_
  refine VC_region ?_
  refine vl_v (q_assign rfl) rfl ?_
  refine vl_nil ?_
  refine (th_n ?_)
  refine VC_ret ?_
  refine ⟨_, res1 rfl rfl, ?_⟩
  exact ⟨rfl, fun w' H' => ⟨o', A', c', hE', St.pick H' (ks := [0, 1, 2]) (by decide) rfl⟩⟩
end Go.Proofs.Ytngdppffcdhhlaa
