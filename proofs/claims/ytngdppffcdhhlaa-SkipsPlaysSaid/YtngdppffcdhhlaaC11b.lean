/- What the functions of package skips do: a key is taken. Conditions: at most so many are kept as memory bears. -/
import Derived.Test.YtngdppffcdhhlaaC11
namespace Go.PBYtngdppffcdhhlaa
open Go Go.RowKit
set_option linter.unusedVariables false
/-- what is left when a key was taken -/
def takeR (L : List Ent) (z : List UInt8 × Int) : List Ent := L.eraseP fun e => decide (e.key = z)
theorem take_at : ∀ {L : List Ent} {j : Nat} {e : Ent}, (L.map Ent.key).Nodup → L[j]? = some e → takeR L e.key = L.eraseIdx j
  | [], j, e, _, h => by simp at h
  | x :: r, 0, e, _, h => by
    have : x = e := by simpa using h
    subst this
    simp [takeR]
  | x :: r, j + 1, e, hn, h => by
    have h' : r[j]? = some e := by simpa using h
    have hn' := List.nodup_cons.1 (show (x.key :: r.map Ent.key).Nodup from hn)
    have hne : ¬ x.key = e.key := fun he => hn'.1 (by rw [he]; exact List.mem_map.2 ⟨e, List.mem_of_getElem? h', rfl⟩)
    have ih := take_at hn'.2 h'
    unfold takeR at ih ⊢
    rw [List.eraseP_cons_of_neg (by simpa using hne), ih]
    rfl
theorem take_no {L : List Ent} {z : List UInt8 × Int} (h : z ∉ L.map Ent.key) : takeR L z = L := by
  unfold takeR
  exact List.eraseP_of_forall_not fun (e : Ent) he hd => h (List.mem_map.2 ⟨e, he, by simpa using hd⟩)
theorem key_at {L : List Ent} {z : List UInt8 × Int} (h : z ∈ L.map Ent.key) : ∃ (j : Nat) (e : Ent), L[j]? = some e ∧ e.key = z := by
  obtain ⟨e, he, hz⟩ := List.mem_map.1 h
  obtain ⟨j, hj⟩ := List.mem_iff_getElem?.1 he
  exact ⟨j, e, hj, hz⟩
theorem ordC_snoc (L : List Ent) (e : Ent) : ordC (L ++ [e]) = ordC L ++ e.kc := by simp [ordC]
theorem mapE_snoc (L : List Ent) (e : Ent) : mapE (L ++ [e]) = mapE L ++ [(.agg e.kc.toArray, .agg (bys e.k).toArray)] := by simp [mapE]
theorem GoodL.snoc {L : List Ent} {e : Ent} (h : GoodL L) (he : e.ok) (hn : e.key ∉ L.map Ent.key) : GoodL (L ++ [e]) := by
  refine ⟨fun x hx => ?_, ?_⟩
  · rcases List.mem_append.1 hx with hx | hx
    · exact h.ok x hx
    · rw [List.mem_singleton.1 hx]; exact he
  · rw [List.map_append, List.nodup_append]
    refine ⟨h.keys, by simp, ?_⟩
    intro a ha b hb
    simp only [List.map_cons, List.map_nil, List.mem_singleton] at hb
    subst hb
    exact fun hab => hn (hab ▸ ha)
end Go.PBYtngdppffcdhhlaa
namespace Go.Proofs.Ytngdppffcdhhlaa
open Go.RowKit Go.PBYtngdppffcdhhlaa
set_option linter.unusedVariables false
set_option linter.unusedSimpArgs false
set_option maxRecDepth 10000

set_option maxHeartbeats 2000000 in
theorem take_yes {S : List Nat} {w0 w : World} {b m : Nat} {o : Obj} {A : Option Addr} {c : Nat} {L : List Ent} (j : Nat) (e : Ent) (H : St S w0 (SkR b m o A c L) w) (hE : MapOf o (mapE L)) (hG : GoodL L) (hj : L[j]? = some e) (hn : L.length ≤ 1000) :
    Calls Try.prog 12 #[vP b 0, .agg (bys e.p).toArray, vI e.n] w fun r w' => r = .returned (.tuple #[.agg (bys e.k).toArray, .bool true]) ∧ SkC S w0 b m (L.eraseIdx j) [] w' := by
  have he := hG.ok e (List.mem_of_getElem? hj)
  have lp := he.p
  have lk := he.k
  have lkc : e.kc.length = 33 := kc_length he.p
  have okc : ∀ v ∈ e.kc, v.oneCell' = true := kc_one e.key
  have hask := askR_at hG hj
  replace H : St S w0 [.blk b 49 [.map (some m), .slice A L.length c], .obj m o, .row 51 33 (.slice A L.length c) L.length (ordC L)] w := H
  refine enter (n := 29) (R := fun r L' => r = .returned (.tuple #[.agg (bys e.k).toArray, .bool true]) ∧ ∀ w', St S w0 L' w' → SkC S w0 b m (L.eraseIdx j) [] w') [vP b 0, .agg (bys e.p).toArray, vI e.n] Try.func12 rfl rfl rfl H ?_ (fun e w' L' h H => ⟨h.1, h.2 w' H⟩)
  refine VC_seq ?_
  refine VC_region ?_
  refine l_boxA rfl rfl ?_
  intro b4
  refine l_allocA zr23 rfl ?_
  intro b6
  refine vl_v (q_assign rfl) rfl ?_
  refine vl_nil ?_
  refine (th_n ?_)
  refine VC_seq ?_
  refine VC_region ?_
  first | (refine vl_v (q_loads 1 Try.underlying23 rfl rfl rfl sz23 (by first | omega | with_reducible assumption | (simp only [zb, zu, zw, zi, za]; omega) | (simp only [zs, zr, zm, za, zb, zu, zw, zi, zt, zd, zc, zn, *] <;> first | done | omega) | rfl)) rfl ?_) | (refine vl_v (q_loadsAt 1 Try.underlying23 rfl rfl rfl sz23 (by rfl) (by first | omega | with_reducible assumption | (simp only [zb, zu, zw, zi, za]; omega) | (simp only [zs, zr, zm, za, zb, zu, zw, zi, zt, zd, zc, zn, *] <;> first | done | omega) | rfl)) rfl ?_)
  refine vl_v (q_move rfl) rfl ?_
  refine vl_v (q_buildS (tot := 33) (sizes := [32, 1]) (c' := e.kc) (by kernel_rfl) rfl rfl rfl rfl (by simp only [List.map_cons, List.map_nil, cellsL, Value.cells, bys_length, lp]; rfl) (by simp only [flatV, cellsL, Value.cells, List.map_cons, List.map_nil, List.flatten_cons, List.flatten_nil, List.append_nil]; rfl)) rfl ?_
  refine l_allocA zr51 rfl ?_
  intro b8
  refine l_storeA 0 rfl rfl rfl sz51 (by first | omega | with_reducible assumption | (simp only [zb, zu, zw, zi, za]; omega) | (simp only [zs, zr, zm, za, zb, zu, zw, zi, zt, zd, zc, zn, *] <;> first | done | omega) | rfl) (by first | (with_reducible first | exact bys_one _ | exact u32s_one _ | exact u64s_one _ | exact i64s_one _ | exact n64s_one _ | assumption) | exact bys_one _ | exact u32s_one _ | exact u64s_one _ | exact i64s_one _ | exact one_all rfl | (refine app_one ?_ ?_ <;> first | exact bys_one _ | exact one_all rfl | (simp; done))) (by first | omega | with_reducible assumption | (simp only [zb, zu, zw, zi, za]; omega) | (simp only [zs, zr, zm, za, zb, zu, zw, zi, zt, zd, zc, zn, *] <;> first | done | omega) | rfl) ?_
  simp only [List.set_cons_zero, List.set_cons_succ]
  refine vl_nil ?_
  refine (th_n ?_)
  refine VC_seq ?_
  refine VC_drawQ 11 6 [[], [0], [1], [2], [], [3, 4], [5], [6], [6], [], [9, 7, 0, 1, 2, 3, 4, 5, 6], [8, 10, 0, 1, 2, 3, 4, 5, 6, 7, 9]] [[], [0], [0, 1], [0, 1, 2], [], [0, 1, 2, 3, 4], [0, 1, 2, 3, 4, 5], [0, 1, 2, 3, 4, 5, 6], [0, 1, 2, 3, 4, 5, 6], [], [0, 1, 2, 3, 4, 5, 6, 7, 9], [0, 1, 2, 3, 4, 5, 6, 7, 8, 9, 10]] [([], [], [], [0, 1, 2, 3, 4, 5], []), ([0], [], [], [0, 1, 2, 3, 4, 5], [0]), ([0, 1], [], [], [0, 1, 2, 3, 4, 5], [0, 1]), ([0, 1, 2], [], [], [0, 1, 2, 3, 4, 5], [0, 1, 2]), ([], [], [], [0, 1, 2, 3, 4, 5], []), ([0, 1, 2, 3, 4], [], [], [0, 1, 2, 3, 4, 5], [0, 1, 2, 3, 4]), ([0, 1, 2, 3, 4, 5], [], [], [0, 1, 2, 3, 4, 5], [0, 1, 2, 3, 4, 5]), ([0, 1, 2, 3, 4, 5, 6], [], [], [0, 1, 2, 3, 4, 5], [0, 1, 2, 3, 4, 5, 6]), ([0, 1, 2, 3, 4, 5, 6], [], [], [0, 1, 2, 3, 4, 5], [0, 1, 2, 3, 4, 5, 6]), ([], [], [], [0, 1, 2, 3, 4, 5], []), ([0, 1, 2, 3, 4, 5, 6, 7, 9], [], [9], [0, 1, 2, 3, 4, 5], [0, 1, 2, 3, 4, 5, 6, 7])] [0, 1, 2, 3, 4, 5] [0, 1, 2, 3, 4, 5, 6, 7, 8, 10] rfl rfl (by kernel_rfl) ?_
  refine qp_v (fun xs gs hx => q_move rfl) ?_
  refine qp_v (fun xs gs hx => q_nilck rfl) ?_
  refine qp_v (fun xs gs hx => q_fldA fo49_0 (by decide) rfl rfl) ?_
  refine qp_v (fun xs gs hx => q_load 3 Try.underlying46 rfl rfl rfl rfl) ?_
  first | (refine qp_v (fun xs gs hx => q_loads 0 Try.underlying51 rfl rfl rfl sz51 (by first | omega | with_reducible assumption | (simp only [zb, zu, zw, zi, za]; omega) | (simp only [zs, zr, zm, za, zb, zu, zw, zi, zt, zd, zc, zn, *] <;> first | done | omega) | rfl)) ?_) | (refine qp_v (fun xs gs hx => q_loadsAt 0 Try.underlying51 rfl rfl rfl sz51 (by rfl) (by first | omega | with_reducible assumption | (simp only [zb, zu, zw, zi, za]; omega) | (simp only [zs, zr, zm, za, zb, zu, zw, zi, zt, zd, zc, zn, *] <;> first | done | omega) | rfl)) ?_)
  refine qp_v (fun xs gs hx => q_as (v := .tuple #[.agg (bys e.k).toArray, .bool true]) (q_ask 4 e.key rfl hE hG he.p he.n rfl rfl) (by rw [hask])) ?_
  refine qp_v (fun xs gs hx => q_move rfl) ?_
  refine qp_v (fun xs gs hx => q_ext rfl rfl) ?_
  refine qp_v (fun xs gs hx => q_ext rfl rfl) ?_
  refine qp_a (fun xs gs hx => q_alloc zr23 rfl) ?_
  refine qp_storeN (fun xs gs hx => rfl) (fun xs gs hx => hx.1 rfl) (fun xs gs hx => rfl) (fun xs gs hx => List.append_nil _) sz23 (fun xs gs hx => by first | omega | with_reducible assumption | (simp only [zb, zu, zw, zi, za]; omega) | (simp only [zs, zr, zm, za, zb, zu, zw, zi, zt, zd, zc, zn, *] <;> first | done | omega) | rfl) (fun xs gs hx => by first | (with_reducible first | exact bys_one _ | exact u32s_one _ | exact u64s_one _ | exact i64s_one _ | exact n64s_one _ | assumption) | exact bys_one _ | exact u32s_one _ | exact u64s_one _ | exact i64s_one _ | exact one_all rfl | (refine app_one ?_ ?_ <;> first | exact bys_one _ | exact one_all rfl | (simp; done))) (fun xs gs hx => by first | omega | with_reducible assumption | (simp only [zb, zu, zw, zi, za]; omega) | (simp only [zs, zr, zm, za, zb, zu, zw, zi, zt, zd, zc, zn, *] <;> first | done | omega) | rfl) ?_
  refine qp_end ?_
  intro xs gs hx
  obtain ⟨⟨b9, e9⟩, _, _⟩ := hx
  simp only [selI, ownsA, List.contains_cons, List.contains_nil, Nat.reduceBEq, Nat.reduceAdd, Bool.or_false, Bool.or_true, Bool.false_or, Bool.true_or, mask, nRow, nBlk, nRowT, tupAt_0, tupAt_1, List.append_assoc, List.nil_append, List.append_nil, List.cons_append, List.singleton_append, e9]
  refine VL.keep (Sub.cons (s := 0) rfl (Sub.cons (s := 1) rfl (Sub.cons (s := 2) rfl (Sub.cons (s := 4) rfl (Sub.cons (s := 6) rfl (Sub.cons (s := 7) rfl (Sub.cons (s := 8) rfl (Sub.cons (s := 22) rfl (Sub.cons (s := 9) rfl (Sub.nil _)))))))))) ?_
  refine vl_v (q_assign rfl) rfl ?_
  refine vl_nil ?_
  refine (qn_n (th_n ?_))
  refine VC_seq ?_
  refine VC_seq ?_
  refine VC_region ?_
  refine vl_v (q_move rfl) rfl ?_
  refine vl_nil ?_
  refine (th_n ?_)
  refine VC_yes (rfl) ?_
  refine VC_pickL (ks := [3, 4, 5, 6, 0, 1, 2]) (by decide) rfl ?_
  refine VC_region ?_
  refine vl_v (q_move rfl) rfl ?_
  first | (refine vl_v (q_loads 4 Try.underlying51 rfl rfl rfl sz51 (by first | omega | with_reducible assumption | (simp only [zb, zu, zw, zi, za]; omega) | (simp only [zs, zr, zm, za, zb, zu, zw, zi, zt, zd, zc, zn, *] <;> first | done | omega) | rfl)) rfl ?_) | (refine vl_v (q_loadsAt 4 Try.underlying51 rfl rfl rfl sz51 (by rfl) (by first | omega | with_reducible assumption | (simp only [zb, zu, zw, zi, za]; omega) | (simp only [zs, zr, zm, za, zb, zu, zw, zi, zt, zd, zc, zn, *] <;> first | done | omega) | rfl)) rfl ?_)
  refine l_call (F := fun v L' => v = .tuple #[] ∧ ∃ o' A' c', MapOf o' (mapE (L.eraseIdx j)) ∧ L' = SkR b m o' A' c' (L.eraseIdx j) ++ [.blk b9 23 (bys e.k), .blk b8 51 e.kc, .blk b6 23 (bys (List.replicate 32 0)), .blk b4 23 (bys e.p)]) Try.func16 rfl rfl rfl (fun w1 H1 => (drop_calls j e H1 hE hG hj (by omega)).mono fun r w' h => ?_) rfl ?_
  · obtain ⟨h1, o', v', hE', h2⟩ := h
    obtain ⟨A', c', rfl, _⟩ := Row.slice (h2.get (k := 2) rfl)
    exact ⟨_, _, h1, ⟨rfl, o', A', c', hE', rfl⟩, h2⟩
  rintro v L' ⟨rfl, o', A', c', hE', rfl⟩
  simp only [SkR, List.cons_append, List.nil_append]
  refine vl_nil ?_
  refine (th_n ?_)
  refine VC_seq ?_
  refine VC_region ?_
  first | (refine vl_v (q_loads 3 Try.underlying23 rfl rfl rfl sz23 (by first | omega | with_reducible assumption | (simp only [zb, zu, zw, zi, za]; omega) | (simp only [zs, zr, zm, za, zb, zu, zw, zi, zt, zd, zc, zn, *] <;> first | done | omega) | rfl)) rfl ?_) | (refine vl_v (q_loadsAt 3 Try.underlying23 rfl rfl rfl sz23 (by rfl) (by first | omega | with_reducible assumption | (simp only [zb, zu, zw, zi, za]; omega) | (simp only [zs, zr, zm, za, zb, zu, zw, zi, zt, zd, zc, zn, *] <;> first | done | omega) | rfl)) rfl ?_)
  refine vl_v (q_move rfl) rfl ?_
  refine l_storeA 5 rfl rfl rfl sz23 (by first | omega | with_reducible assumption | (simp only [zb, zu, zw, zi, za]; omega) | (simp only [zs, zr, zm, za, zb, zu, zw, zi, zt, zd, zc, zn, *] <;> first | done | omega) | rfl) (by first | (with_reducible first | exact bys_one _ | exact u32s_one _ | exact u64s_one _ | exact i64s_one _ | exact n64s_one _ | assumption) | exact bys_one _ | exact u32s_one _ | exact u64s_one _ | exact i64s_one _ | exact one_all rfl | (refine app_one ?_ ?_ <;> first | exact bys_one _ | exact one_all rfl | (simp; done))) (by first | omega | with_reducible assumption | (simp only [zb, zu, zw, zi, za]; omega) | (simp only [zs, zr, zm, za, zb, zu, zw, zi, zt, zd, zc, zn, *] <;> first | done | omega) | rfl) ?_
  simp only [List.set_cons_zero, List.set_cons_succ]
  refine vl_v (q_assign rfl) rfl ?_
  refine vl_nil ?_
  refine (th_n ?_)
  refine VC_ret ?_
  refine ⟨_, resC2 5 rfl Try.underlying23 rfl rfl rfl sz23 (by first | omega | with_reducible assumption | (simp only [zb, zu, zw, zi, za]; omega) | (simp only [zs, zr, zm, za, zb, zu, zw, zi, zt, zd, zc, zn, *] <;> first | done | omega) | rfl) rfl, ?_⟩
  exact ⟨rfl, fun w' H' => ⟨o', A', c', hE', St.pick H' (ks := [0, 1, 2]) (by decide) rfl⟩⟩
set_option maxHeartbeats 2000000 in
theorem take_none {S : List Nat} {w0 w : World} {b m : Nat} {o : Obj} {A : Option Addr} {c : Nat} {L : List Ent} (p : List UInt8) (n : Int) (H : St S w0 (SkR b m o A c L) w) (hE : MapOf o (mapE L)) (hG : GoodL L) (lp : p.length = 32) (hnw : (Lit.int .i64 n).wf = true) (hno : (p, n) ∉ L.map Ent.key) :
    Calls Try.prog 12 #[vP b 0, .agg (bys p).toArray, vI n] w fun r w' => r = .returned (.tuple #[.agg (bys zKey).toArray, .bool false]) ∧ SkC S w0 b m L [] w' := by
  have lkc : (kc (p, n)).length = 33 := kc_length lp
  have okc : ∀ v ∈ kc (p, n), v.oneCell' = true := kc_one (p, n)
  have lz : zKey.length = 32 := by simp [zKey]
  have hask := askR_no hno
  replace H : St S w0 [.blk b 49 [.map (some m), .slice A L.length c], .obj m o, .row 51 33 (.slice A L.length c) L.length (ordC L)] w := H
  refine enter (n := 29) (R := fun r L' => r = .returned (.tuple #[.agg (bys zKey).toArray, .bool false]) ∧ ∀ w', St S w0 L' w' → SkC S w0 b m L [] w') [vP b 0, .agg (bys p).toArray, vI n] Try.func12 rfl rfl rfl H ?_ (fun e w' L' h H => ⟨h.1, h.2 w' H⟩)
  refine VC_seq ?_
  refine VC_region ?_
  refine l_boxA rfl rfl ?_
  intro b4
  refine l_allocA zr23 rfl ?_
  intro b6
  refine vl_v (q_assign rfl) rfl ?_
  refine vl_nil ?_
  refine (th_n ?_)
  refine VC_seq ?_
  refine VC_region ?_
  first | (refine vl_v (q_loads 1 Try.underlying23 rfl rfl rfl sz23 (by first | omega | with_reducible assumption | (simp only [zb, zu, zw, zi, za]; omega) | (simp only [zs, zr, zm, za, zb, zu, zw, zi, zt, zd, zc, zn, *] <;> first | done | omega) | rfl)) rfl ?_) | (refine vl_v (q_loadsAt 1 Try.underlying23 rfl rfl rfl sz23 (by rfl) (by first | omega | with_reducible assumption | (simp only [zb, zu, zw, zi, za]; omega) | (simp only [zs, zr, zm, za, zb, zu, zw, zi, zt, zd, zc, zn, *] <;> first | done | omega) | rfl)) rfl ?_)
  refine vl_v (q_move rfl) rfl ?_
  refine vl_v (q_buildS (tot := 33) (sizes := [32, 1]) (c' := kc (p, n)) (by kernel_rfl) rfl rfl rfl rfl (by simp only [List.map_cons, List.map_nil, cellsL, Value.cells, bys_length, lp]; rfl) (by simp only [flatV, cellsL, Value.cells, List.map_cons, List.map_nil, List.flatten_cons, List.flatten_nil, List.append_nil]; rfl)) rfl ?_
  refine l_allocA zr51 rfl ?_
  intro b8
  refine l_storeA 0 rfl rfl rfl sz51 (by first | omega | with_reducible assumption | (simp only [zb, zu, zw, zi, za]; omega) | (simp only [zs, zr, zm, za, zb, zu, zw, zi, zt, zd, zc, zn, *] <;> first | done | omega) | rfl) (by first | (with_reducible first | exact bys_one _ | exact u32s_one _ | exact u64s_one _ | exact i64s_one _ | exact n64s_one _ | assumption) | exact bys_one _ | exact u32s_one _ | exact u64s_one _ | exact i64s_one _ | exact one_all rfl | (refine app_one ?_ ?_ <;> first | exact bys_one _ | exact one_all rfl | (simp; done))) (by first | omega | with_reducible assumption | (simp only [zb, zu, zw, zi, za]; omega) | (simp only [zs, zr, zm, za, zb, zu, zw, zi, zt, zd, zc, zn, *] <;> first | done | omega) | rfl) ?_
  simp only [List.set_cons_zero, List.set_cons_succ]
  refine vl_nil ?_
  refine (th_n ?_)
  refine VC_seq ?_
  refine VC_drawQ 11 6 [[], [0], [1], [2], [], [3, 4], [5], [6], [6], [], [9, 7, 0, 1, 2, 3, 4, 5, 6], [8, 10, 0, 1, 2, 3, 4, 5, 6, 7, 9]] [[], [0], [0, 1], [0, 1, 2], [], [0, 1, 2, 3, 4], [0, 1, 2, 3, 4, 5], [0, 1, 2, 3, 4, 5, 6], [0, 1, 2, 3, 4, 5, 6], [], [0, 1, 2, 3, 4, 5, 6, 7, 9], [0, 1, 2, 3, 4, 5, 6, 7, 8, 9, 10]] [([], [], [], [0, 1, 2, 3, 4, 5], []), ([0], [], [], [0, 1, 2, 3, 4, 5], [0]), ([0, 1], [], [], [0, 1, 2, 3, 4, 5], [0, 1]), ([0, 1, 2], [], [], [0, 1, 2, 3, 4, 5], [0, 1, 2]), ([], [], [], [0, 1, 2, 3, 4, 5], []), ([0, 1, 2, 3, 4], [], [], [0, 1, 2, 3, 4, 5], [0, 1, 2, 3, 4]), ([0, 1, 2, 3, 4, 5], [], [], [0, 1, 2, 3, 4, 5], [0, 1, 2, 3, 4, 5]), ([0, 1, 2, 3, 4, 5, 6], [], [], [0, 1, 2, 3, 4, 5], [0, 1, 2, 3, 4, 5, 6]), ([0, 1, 2, 3, 4, 5, 6], [], [], [0, 1, 2, 3, 4, 5], [0, 1, 2, 3, 4, 5, 6]), ([], [], [], [0, 1, 2, 3, 4, 5], []), ([0, 1, 2, 3, 4, 5, 6, 7, 9], [], [9], [0, 1, 2, 3, 4, 5], [0, 1, 2, 3, 4, 5, 6, 7])] [0, 1, 2, 3, 4, 5] [0, 1, 2, 3, 4, 5, 6, 7, 8, 10] rfl rfl (by kernel_rfl) ?_
  refine qp_v (fun xs gs hx => q_move rfl) ?_
  refine qp_v (fun xs gs hx => q_nilck rfl) ?_
  refine qp_v (fun xs gs hx => q_fldA fo49_0 (by decide) rfl rfl) ?_
  refine qp_v (fun xs gs hx => q_load 3 Try.underlying46 rfl rfl rfl rfl) ?_
  first | (refine qp_v (fun xs gs hx => q_loads 0 Try.underlying51 rfl rfl rfl sz51 (by first | omega | with_reducible assumption | (simp only [zb, zu, zw, zi, za]; omega) | (simp only [zs, zr, zm, za, zb, zu, zw, zi, zt, zd, zc, zn, *] <;> first | done | omega) | rfl)) ?_) | (refine qp_v (fun xs gs hx => q_loadsAt 0 Try.underlying51 rfl rfl rfl sz51 (by rfl) (by first | omega | with_reducible assumption | (simp only [zb, zu, zw, zi, za]; omega) | (simp only [zs, zr, zm, za, zb, zu, zw, zi, zt, zd, zc, zn, *] <;> first | done | omega) | rfl)) ?_)
  refine qp_v (fun xs gs hx => q_as (v := .tuple #[.agg (bys zKey).toArray, .bool false]) (q_ask 4 (p, n) rfl hE hG lp hnw rfl rfl) (by rw [hask])) ?_
  refine qp_v (fun xs gs hx => q_move rfl) ?_
  refine qp_v (fun xs gs hx => q_ext rfl rfl) ?_
  refine qp_v (fun xs gs hx => q_ext rfl rfl) ?_
  refine qp_a (fun xs gs hx => q_alloc zr23 rfl) ?_
  refine qp_storeN (fun xs gs hx => rfl) (fun xs gs hx => hx.1 rfl) (fun xs gs hx => rfl) (fun xs gs hx => List.append_nil _) sz23 (fun xs gs hx => by first | omega | with_reducible assumption | (simp only [zb, zu, zw, zi, za]; omega) | (simp only [zs, zr, zm, za, zb, zu, zw, zi, zt, zd, zc, zn, *] <;> first | done | omega) | rfl) (fun xs gs hx => by first | (with_reducible first | exact bys_one _ | exact u32s_one _ | exact u64s_one _ | exact i64s_one _ | exact n64s_one _ | assumption) | exact bys_one _ | exact u32s_one _ | exact u64s_one _ | exact i64s_one _ | exact one_all rfl | (refine app_one ?_ ?_ <;> first | exact bys_one _ | exact one_all rfl | (simp; done))) (fun xs gs hx => by first | omega | with_reducible assumption | (simp only [zb, zu, zw, zi, za]; omega) | (simp only [zs, zr, zm, za, zb, zu, zw, zi, zt, zd, zc, zn, *] <;> first | done | omega) | rfl) ?_
  refine qp_end ?_
  intro xs gs hx
  obtain ⟨⟨b9, e9⟩, _, _⟩ := hx
  simp only [selI, ownsA, List.contains_cons, List.contains_nil, Nat.reduceBEq, Nat.reduceAdd, Bool.or_false, Bool.or_true, Bool.false_or, Bool.true_or, mask, nRow, nBlk, nRowT, tupAt_0, tupAt_1, List.append_assoc, List.nil_append, List.append_nil, List.cons_append, List.singleton_append, e9]
  refine VL.keep (Sub.cons (s := 0) rfl (Sub.cons (s := 1) rfl (Sub.cons (s := 2) rfl (Sub.cons (s := 4) rfl (Sub.cons (s := 6) rfl (Sub.cons (s := 7) rfl (Sub.cons (s := 8) rfl (Sub.cons (s := 22) rfl (Sub.cons (s := 9) rfl (Sub.nil _)))))))))) ?_
  refine vl_v (q_assign rfl) rfl ?_
  refine vl_nil ?_
  refine (qn_n (th_n ?_))
  refine VC_seq ?_
  refine VC_seq ?_
  refine VC_region ?_
  refine vl_v (q_move rfl) rfl ?_
  refine vl_nil ?_
  refine (th_n ?_)
  refine VC_no (rfl) ?_
  refine VC_skip ?_
  refine (th_n ?_)
  refine VC_seq ?_
  refine VC_region ?_
  first | (refine vl_v (q_loads 6 Try.underlying23 rfl rfl rfl sz23 (by first | omega | with_reducible assumption | (simp only [zb, zu, zw, zi, za]; omega) | (simp only [zs, zr, zm, za, zb, zu, zw, zi, zt, zd, zc, zn, *] <;> first | done | omega) | rfl)) rfl ?_) | (refine vl_v (q_loadsAt 6 Try.underlying23 rfl rfl rfl sz23 (by rfl) (by first | omega | with_reducible assumption | (simp only [zb, zu, zw, zi, za]; omega) | (simp only [zs, zr, zm, za, zb, zu, zw, zi, zt, zd, zc, zn, *] <;> first | done | omega) | rfl)) rfl ?_)
  refine vl_v (q_move rfl) rfl ?_
  refine l_storeA 1 rfl rfl rfl sz23 (by first | omega | with_reducible assumption | (simp only [zb, zu, zw, zi, za]; omega) | (simp only [zs, zr, zm, za, zb, zu, zw, zi, zt, zd, zc, zn, *] <;> first | done | omega) | rfl) (by first | (with_reducible first | exact bys_one _ | exact u32s_one _ | exact u64s_one _ | exact i64s_one _ | exact n64s_one _ | assumption) | exact bys_one _ | exact u32s_one _ | exact u64s_one _ | exact i64s_one _ | exact one_all rfl | (refine app_one ?_ ?_ <;> first | exact bys_one _ | exact one_all rfl | (simp; done))) (by first | omega | with_reducible assumption | (simp only [zb, zu, zw, zi, za]; omega) | (simp only [zs, zr, zm, za, zb, zu, zw, zi, zt, zd, zc, zn, *] <;> first | done | omega) | rfl) ?_
  simp only [List.set_cons_zero, List.set_cons_succ]
  refine vl_v (q_assign rfl) rfl ?_
  refine vl_nil ?_
  refine (th_n ?_)
  refine VC_ret ?_
  refine ⟨_, resC2 1 rfl Try.underlying23 rfl rfl rfl sz23 (by first | omega | with_reducible assumption | (simp only [zb, zu, zw, zi, za]; omega) | (simp only [zs, zr, zm, za, zb, zu, zw, zi, zt, zd, zc, zn, *] <;> first | done | omega) | rfl) rfl, ?_⟩
  exact ⟨rfl, fun w' H' => ⟨o, A, c, hE, St.pick H' (ks := [3, 4, 5]) (by decide) rfl⟩⟩
end Go.Proofs.Ytngdppffcdhhlaa
