/- What the document's functions of chapter 05 do. Conditions: lengths. -/
import Derived.Test.YtkadnmoephkklaaC05d
import Derived.Test.YtkadnmoephkklaaC03n
import Derived.Test.YtkadnmoephkklaaD04c
import Derived.Test.YtkadnmoephkklaaR01b
namespace Go.Proofs.Ytkadnmoephkklaa
open Go.RowKit Go.PBYtkadnmoephkklaa
set_option linter.unusedVariables false
set_option linter.unusedSimpArgs false
set_option maxRecDepth 10000

theorem rkeyQ_calls (k p : List UInt8) (hk : k.length = 32) (hp : p.length ≤ 1000) (w : World) :
    Calls Try.prog 23 #[.agg (bys k).toArray, .string ⟨p.toArray⟩] w fun e w' => e = .returned (.agg (bys (keyP k p)).toArray) ∧ Kept [] w w' := by
  rw [← spreadP]; exact rkey_calls k p hk hp w
set_option maxHeartbeats 1000000 in
theorem rturn5_calls (k b a u : List UInt8) (ha : keyP k tTurn = a) (hu : turnB a n12 0 b = u) (lk : k.length = 32) (B : Option Addr) (lb c : Nat) (hlb : lb = b.length) (hb : b.length ≤ 100000) (w : World) (hB : SlAt w B (bys b)) (hc : lb ≤ c) :
    Calls Try.prog 49 #[.agg (bys k).toArray, .slice B lb c] w fun e w' => ∃ v, e = .returned v ∧ St [] w [.row 5 1 v b.length (bys u)] w' := by
  subst hlb
  have la : a.length = 32 := by rw [← ha]; exact keyP_length ..
  refine enter (n := 10) (R := fun e L => ∃ v M, e = .returned v ∧ L = .row 5 1 v b.length (bys u) :: M) [.agg (bys k).toArray, .slice B b.length c] Try.func49 rfl rfl rfl (St.refl w) ?_ endRow
  refine VC_seq ?_
  refine VC_region ?_
  refine l_boxA rfl rfl ?_
  intro b2
  refine vl_v (q_assign rfl) rfl ?_
  refine vl_nil ?_
  refine (th_n ?_)
  refine VC_seq ?_
  refine VC_region ?_
  first | (refine vl_v (q_loads 0 Try.underlying23 rfl rfl rfl sz23 (by first | omega | with_reducible assumption | (simp only [zb, zu, zw, zi, za]; omega) | (simp only [zs, zr, zm, za, zb, zu, zw, zi, zt, zd, zc, zn, *] <;> first | done | omega) | rfl)) rfl ?_) | (refine vl_v (q_loadsAt 0 Try.underlying23 rfl rfl rfl sz23 (by rfl) (by first | omega | with_reducible assumption | (simp only [zb, zu, zw, zi, za]; omega) | (simp only [zs, zr, zm, za, zb, zu, zw, zi, zt, zd, zc, zn, *] <;> first | done | omega) | rfl)) rfl ?_)
  refine vl_v (q_callV Try.func23 rfl rfl rfl (fun w1 H1 => ha ▸ rkeyQ_calls k tTurn lk (by decide) w1)) rfl ?_
  refine vl_v (q_build (c' := bys n12) rfl (by kernel_rfl)) rfl ?_
  refine vl_v (q_move rfl) rfl ?_
  refine l_callR Try.func57 rfl rfl rfl (fun w1 H1 => hu ▸ rturn_calls a n12 0 b B c la n12_length w1 (Reads.old hB w1 H1) hc hb) rfl ?_
  intro A9 c9 hc9 hm9
  refine vl_v (q_assign rfl) rfl ?_
  refine vl_nil ?_
  refine (th_n ?_)
  refine VC_ret ?_
  refine ⟨_, res1 rfl rfl, ?_⟩
  exact ⟨_, _, rfl, rfl⟩
set_option maxHeartbeats 1000000 in
theorem rtag5_calls (k b c g j m : List UInt8) (hg : keyP k tTag = g) (hj : joinB [k, b, c] = j) (hm : macB g j = m) (lk : k.length = 32) (B C : Option Addr) (lb lc cb cc : Nat) (hlb : lb = b.length) (hlc : lc = c.length) (hb : b.length ≤ 100000) (hc : c.length ≤ 100000) (w : World) (hB : SlAt w B (bys b)) (hC : SlAt w C (bys c)) (hcb : lb ≤ cb) (hcc : lc ≤ cc) :
    Calls Try.prog 50 #[.agg (bys k).toArray, .slice B lb cb, .slice C lc cc] w fun e w' => e = .returned (.agg (bys m).toArray) ∧ Kept [] w w' := by
  have lg : g.length = 32 := by rw [← hg]; exact keyP_length ..
  have lj : j.length = 44 + b.length + c.length := by rw [← hj]; exact join3_length k b c lk
  have lm : m.length = 32 := by rw [← hm]; exact macB_length ..
  refine enter (n := 15) (R := fun e L => e = .returned (.agg (bys m).toArray)) [.agg (bys k).toArray, .slice B lb cb, .slice C lc cc] Try.func50 rfl rfl rfl (St.refl w) ?_ (fun e w' L' h H => ⟨h, H.kept⟩)
  refine VC_seq ?_
  refine VC_region ?_
  refine l_boxA rfl rfl ?_
  intro b3
  refine l_allocA zr23 rfl ?_
  intro b6
  refine vl_nil ?_
  refine (th_n ?_)
  refine VC_seq ?_
  refine VC_drawQ 6 2 [[], [0], [], [], [], [2, 3, 4], [5, 1], [1, 6], [7, 0, 1, 2, 3, 4, 5, 6]] [[], [0], [], [], [], [2, 3, 4], [0, 1, 2, 3, 4, 5], [0, 1, 2, 3, 4, 5, 6], [0, 1, 2, 3, 4, 5, 6, 7]] [([], [], [], [0, 1], []), ([0], [], [], [0, 1], [0]), ([], [], [], [0, 1], []), ([], [], [], [0, 1], []), ([], [], [], [0, 1], []), ([2, 3, 4], [], [], [0, 1], [2, 3, 4])] [0, 1] [0, 1, 2, 3, 4, 5] rfl rfl (by kernel_rfl) ?_
  first | (refine qp_v (fun xs gs hx => q_loads 1 Try.underlying23 rfl rfl rfl sz23 (by first | omega | with_reducible assumption | (simp only [zb, zu, zw, zi, za]; omega) | (simp only [zs, zr, zm, za, zb, zu, zw, zi, zt, zd, zc, zn, *] <;> first | done | omega) | rfl)) ?_) | (refine qp_v (fun xs gs hx => q_loadsAt 1 Try.underlying23 rfl rfl rfl sz23 (by rfl) (by first | omega | with_reducible assumption | (simp only [zb, zu, zw, zi, za]; omega) | (simp only [zs, zr, zm, za, zb, zu, zw, zi, zt, zd, zc, zn, *] <;> first | done | omega) | rfl)) ?_)
  refine qp_v (fun xs gs hx => q_callV Try.func23 rfl rfl rfl (fun w1 H1 => hg ▸ rkeyQ_calls k tTag lk (by decide) w1)) ?_
  refine qp_v (fun xs gs hx => q_slcA Try.underlying23 sz5 rfl rfl rfl rfl (.inl rfl) (by omega) (by omega) (by omega) (by omega) (by (try simp only [Nat.mul_one, Nat.zero_add, Nat.zero_mul, Nat.mul_zero, Nat.add_zero]) <;> rfl)) ?_
  refine qp_v (fun xs gs hx => q_move rfl) ?_
  refine qp_v (fun xs gs hx => q_move rfl) ?_
  refine qp_a (fun xs gs hx => q_litA (cs := [.slice (some ⟨b3, 0, none⟩) 32 32, .slice B lb cb, .slice C lc cc]) Try.underlying93 in24 (by decide) rfl rfl rfl rfl (one_all rfl) rfl) ?_
  refine qp_end ?_
  intro xs gs hx
  obtain ⟨⟨b12, e12⟩, _⟩ := hx
  simp only [selI, ownsA, List.contains_cons, List.contains_nil, Nat.reduceBEq, Nat.reduceAdd, Bool.or_false, Bool.or_true, Bool.false_or, Bool.true_or, mask, nRow, nBlk, nRowT, tupAt_0, tupAt_1, List.append_assoc, List.nil_append, List.append_nil, List.cons_append, List.singleton_append, e12]
  refine VL.keep (Sub.cons (s := 0) rfl (Sub.cons (s := 1) rfl (Sub.cons (s := 2) rfl (Sub.cons (s := 3) rfl (Sub.cons (s := 6) rfl (Sub.cons (s := 8) rfl (Sub.cons (s := 12) rfl (Sub.nil _)))))))) ?_
  refine l_callR Try.func58 rfl rfl rfl (fun w1 H1 => by have h := rjoin_calls [k, b, c] (.slice (some ⟨b12, 0, none⟩) 3 3) w1 (rowsAt3 (Reads.row 2 rfl w1 H1) (by omega) (bsAt_of lk.symm (by omega) (Reads.blk 1 rfl w1 H1)) (bsAt_of hlb hcb (Reads.old hB w1 H1)) (bsAt_of hlc hcc (Reads.old hC w1 H1))) (by rw [hj]; omega) (by simp); rw [hj] at h; exact h) rfl ?_
  intro A13 c13 hc13 hm13
  refine vl_v (q_callV Try.func40 rfl rfl rfl (fun w1 H1 => hm ▸ rtag_calls g j _ _ _ rfl lg (by omega) w1 (Reads.row 0 rfl w1 H1) (by omega))) rfl ?_
  refine l_storeA 1 rfl rfl rfl sz23 (by first | omega | with_reducible assumption | (simp only [zb, zu, zw, zi, za]; omega) | (simp only [zs, zr, zm, za, zb, zu, zw, zi, zt, zd, zc, zn, *] <;> first | done | omega) | rfl) (by first | (with_reducible first | exact bys_one _ | exact u32s_one _ | exact u64s_one _ | exact i64s_one _ | exact n64s_one _ | assumption) | exact bys_one _ | exact u32s_one _ | exact u64s_one _ | exact i64s_one _ | exact one_all rfl | (refine app_one ?_ ?_ <;> first | exact bys_one _ | (simp; done))) (by first | omega | with_reducible assumption | (simp only [zb, zu, zw, zi, za]; omega) | (simp only [zs, zr, zm, za, zb, zu, zw, zi, zt, zd, zc, zn, *] <;> first | done | omega) | rfl) ?_
  simp only [List.set_cons_zero, List.set_cons_succ]
  refine vl_nil ?_
  refine (qn_n (th_n ?_))
  refine VC_ret ?_
  refine ⟨_, resC1 1 rfl Try.underlying23 rfl rfl rfl sz23 (by first | omega | with_reducible assumption | (simp only [zb, zu, zw, zi, za]; omega) | (simp only [zs, zr, zm, za, zb, zu, zw, zi, zt, zd, zc, zn, *] <;> first | done | omega) | rfl), ?_⟩
  exact rfl
set_option maxHeartbeats 1000000 in
theorem rclose5_walk (k b t a g u m : List UInt8) (ha : keyP k tTurn = a) (hg : keyP k tTag = g) (hu : turnB a n12 0 t = u) (hm : macB g (joinB [k, b, u]) = m) (hk : k.length = 32) (B C : Option Addr) (lb lc cb cc : Nat) (hlb : lb = b.length) (hlc : lc = t.length) (hb : b.length ≤ 10000) (hc : t.length ≤ 10000) (w : World) (hB : SlAt w B (bys b)) (hC : SlAt w C (bys t)) (hcb : lb ≤ cb) (hcc : lc ≤ cc) :
    Calls Try.prog 37 #[.agg (bys k).toArray, .slice B lb cb, .slice C lc cc] w fun e w' => ∃ v, e = .returned v ∧ St [] w [.row 5 1 v (t.length + 32) (bys (u ++ m))] w' := by
  have lu : u.length = t.length := by rw [← hu]; exact turnB_length ..
  have lm : m.length = 32 := by rw [← hm]; exact macB_length ..
  refine enter (n := 19) (R := fun e L => ∃ v, e = .returned v ∧ ∀ w', St [] w L w' → St [] w [.row 5 1 v (t.length + 32) (bys (u ++ m))] w') [.agg (bys k).toArray, .slice B lb cb, .slice C lc cc] Try.func37 rfl rfl rfl (St.refl w) ?_ (fun e w' L' h H => by obtain ⟨v, h1, h2⟩ := h; exact ⟨v, h1, h2 w' H⟩)
  refine VC_seq ?_
  refine VC_region ?_
  refine l_boxA rfl rfl ?_
  intro b3
  refine vl_v (q_assign rfl) rfl ?_
  refine vl_nil ?_
  refine (th_n ?_)
  refine VC_seq ?_
  refine VC_region ?_
  first | (refine vl_v (q_loads 0 Try.underlying23 rfl rfl rfl sz23 (by first | omega | with_reducible assumption | (simp only [zb, zu, zw, zi, za]; omega) | (simp only [zs, zr, zm, za, zb, zu, zw, zi, zt, zd, zc, zn, *] <;> first | done | omega) | rfl)) rfl ?_) | (refine vl_v (q_loadsAt 0 Try.underlying23 rfl rfl rfl sz23 (by rfl) (by first | omega | with_reducible assumption | (simp only [zb, zu, zw, zi, za]; omega) | (simp only [zs, zr, zm, za, zb, zu, zw, zi, zt, zd, zc, zn, *] <;> first | done | omega) | rfl)) rfl ?_)
  refine vl_v (q_move rfl) rfl ?_
  refine l_callR Try.func49 rfl rfl rfl (fun w1 H1 => rturn5_calls k t a u ha hu hk C lc cc hlc (by omega) w1 (Reads.old hC w1 H1) hcc) rfl ?_
  intro A11 c11 hc11 hm11
  refine vl_v (q_assign rfl) rfl ?_
  refine vl_nil ?_
  refine (th_n ?_)
  refine VC_seq ?_
  refine VC_region ?_
  first | (refine vl_v (q_loads 1 Try.underlying23 rfl rfl rfl sz23 (by first | omega | with_reducible assumption | (simp only [zb, zu, zw, zi, za]; omega) | (simp only [zs, zr, zm, za, zb, zu, zw, zi, zt, zd, zc, zn, *] <;> first | done | omega) | rfl)) rfl ?_) | (refine vl_v (q_loadsAt 1 Try.underlying23 rfl rfl rfl sz23 (by rfl) (by first | omega | with_reducible assumption | (simp only [zb, zu, zw, zi, za]; omega) | (simp only [zs, zr, zm, za, zb, zu, zw, zi, zt, zd, zc, zn, *] <;> first | done | omega) | rfl)) rfl ?_)
  refine vl_v (q_move rfl) rfl ?_
  refine vl_v (q_move rfl) rfl ?_
  refine vl_v (q_callV Try.func50 rfl rfl rfl (fun w1 H1 => rtag5_calls k b u g _ m hg rfl hm hk B A11 lb t.length cb c11 hlb lu.symm (by omega) (by omega) w1 (Reads.old hB w1 H1) (Reads.row 0 rfl w1 H1) hcb (by omega))) rfl ?_
  refine l_allocA zr23 rfl ?_
  intro b8
  refine l_storeA 0 rfl rfl rfl sz23 (by first | omega | with_reducible assumption | (simp only [zb, zu, zw, zi, za]; omega) | (simp only [zs, zr, zm, za, zb, zu, zw, zi, zt, zd, zc, zn, *] <;> first | done | omega) | rfl) (by first | (with_reducible first | exact bys_one _ | exact u32s_one _ | exact u64s_one _ | exact i64s_one _ | exact n64s_one _ | assumption) | exact bys_one _ | exact u32s_one _ | exact u64s_one _ | exact i64s_one _ | exact one_all rfl | (refine app_one ?_ ?_ <;> first | exact bys_one _ | (simp; done))) (by first | omega | with_reducible assumption | (simp only [zb, zu, zw, zi, za]; omega) | (simp only [zs, zr, zm, za, zb, zu, zw, zi, zt, zd, zc, zn, *] <;> first | done | omega) | rfl) ?_
  simp only [List.set_cons_zero, List.set_cons_succ]
  refine vl_nil ?_
  refine (th_n ?_)
  refine VC_seq ?_
  refine VC_region ?_
  refine vl_v (q_move rfl) rfl ?_
  refine vl_v (q_slcA Try.underlying23 sz5 rfl rfl rfl rfl (.inl rfl) (by omega) (by omega) (by omega) (by omega) (by (try simp only [Nat.mul_one, Nat.zero_add, Nat.zero_mul, Nat.mul_zero, Nat.add_zero]) <;> rfl)) rfl ?_
  refine l_append 1 rfl rfl rfl Try.underlying24 Try.underlying24 in5 rfl (by decide) (Reads.blk 0 rfl) (by first | omega | with_reducible assumption | (simp only [zb, zu, zw, zi, za]; omega) | (simp only [zs, zr, zm, za, zb, zu, zw, zi, zt, zd, zc, zn, *] <;> first | done | omega) | rfl) (by first | (with_reducible first | exact bys_one _ | exact u32s_one _ | exact u64s_one _ | exact i64s_one _ | exact n64s_one _ | assumption) | exact bys_one _ | exact u32s_one _ | exact u64s_one _ | exact i64s_one _ | exact one_all rfl | (refine app_one ?_ ?_ <;> first | exact bys_one _ | (simp; done))) (by first | omega | with_reducible assumption | (simp only [zb, zu, zw, zi, za]; omega) | (simp only [zs, zr, zm, za, zb, zu, zw, zi, zt, zd, zc, zn, *] <;> first | done | omega) | rfl) (by first | omega | with_reducible assumption | (simp only [zb, zu, zw, zi, za]; omega) | (simp only [zs, zr, zm, za, zb, zu, zw, zi, zt, zd, zc, zn, *] <;> first | done | omega) | rfl) rfl ?_
  intro A18 c18 hc18
  simp only [List.set_cons_zero, List.set_cons_succ, ← bys_append, ← u32s_append, ← u64s_append, ← i64s_append, List.nil_append, Nat.zero_add]
  refine vl_v (q_assign rfl) rfl ?_
  refine vl_nil ?_
  refine (th_n ?_)
  refine VC_ret ?_
  refine ⟨_, res1 rfl rfl, ?_⟩
  exact ⟨_, rfl, fun w' H' => St.pick H' (ks := [1]) (by decide) rfl⟩
theorem rclose5_calls (k b t : List UInt8) (hk : k.length = 32) (B C : Option Addr) (lb lc cb cc : Nat) (hlb : lb = b.length) (hlc : lc = t.length) (hb : b.length ≤ 10000) (hc : t.length ≤ 10000) (w : World) (hB : SlAt w B (bys b)) (hC : SlAt w C (bys t)) (hcb : lb ≤ cb) (hcc : lc ≤ cc) :
    Calls Try.prog 37 #[.agg (bys k).toArray, .slice B lb cb, .slice C lc cc] w fun e w' => ∃ v, e = .returned v ∧ St [] w [.row 5 1 v (t.length + 32) (bys (closeW k b t))] w' :=
  rclose5_walk k b t _ _ _ _ rfl rfl rfl rfl hk B C lb lc cb cc hlb hlc hb hc w hB hC hcb hcc
set_option maxHeartbeats 1000000 in
theorem ropen5_short (k : List UInt8) (lb cb lc cc : Nat) (B C : Option Addr) (hk : k.length = 32) (hl : lc < 32) (w : World) :
    Calls Try.prog 38 #[.agg (bys k).toArray, .slice B lb cb, .slice C lc cc] w fun e w' => e = .returned (.tuple #[.slice none 0 0, .int .i64 3]) ∧ Kept [] w w' := by
  refine enter (n := 33) (R := fun e L => e = .returned (.tuple #[.slice none 0 0, .int .i64 3])) [.agg (bys k).toArray, .slice B lb cb, .slice C lc cc] Try.func38 rfl rfl rfl (St.refl w) ?_ (fun e w' L' h H => ⟨h, H.kept⟩)
  refine VC_seq ?_
  refine VC_region ?_
  refine l_boxA rfl rfl ?_
  intro b3
  refine vl_v (q_assign rfl) rfl ?_
  refine vl_v (q_assign rfl) rfl ?_
  refine vl_nil ?_
  refine (th_n ?_)
  refine VC_seq ?_
  refine VC_region ?_
  refine vl_v (q_move rfl) rfl ?_
  refine vl_v (q_lenS Try.underlying24 rfl) rfl ?_
  refine vl_v (q_sub_i rfl rfl (by omega) (by omega)) rfl ?_
  refine vl_v (q_assign rfl) rfl ?_
  refine vl_nil ?_
  refine (th_n ?_)
  refine VC_seq ?_
  refine VC_seq ?_
  refine VC_region ?_
  refine vl_v (q_move rfl) rfl ?_
  refine vl_v (q_as (v := .bool true) (q_lss_k (q := 0) Try.underlying3 rfl rfl) (by simp; omega)) rfl ?_
  refine vl_nil ?_
  refine (th_n ?_)
  refine VC_yes (rfl) ?_
  refine VC_seq ?_
  refine VC_region ?_
  refine vl_v (q_assign rfl) rfl ?_
  refine vl_v (q_assign rfl) rfl ?_
  refine vl_nil ?_
  refine (th_n ?_)
  refine VC_ret ?_
  refine (th_r ?_)
  refine ⟨_, res2 rfl rfl rfl, ?_⟩
  exact rfl
set_option maxHeartbeats 1000000 in
theorem ropen5_good (k b c t a u g m : List UInt8) (n : Nat) (ha : keyP k tTurn = a) (hu : turnB a n12 0 (c.take n) = u) (hg : keyP k tTag = g) (hm : macB g (joinB [k, b, c.take n]) = m) (hk : k.length = 32) (B C : Option Addr) (lb lc cb cc : Nat) (hn : c.length = n + 32) (ht : c.drop n = t) (hlb : lb = b.length) (hlc : lc = c.length) (hb : b.length ≤ 10000) (hc : c.length ≤ 10000) (hmt : m = t) (w : World) (hB : SlAt w B (bys b)) (hC : SlAt w C (bys c)) (hcb : lb ≤ cb) (hcc : lc ≤ cc) :
    Calls Try.prog 38 #[.agg (bys k).toArray, .slice B lb cb, .slice C lc cc] w fun e w' => ∃ v, e = .returned (.tuple #[v, .int .i64 0]) ∧ St [] w [.row 5 1 v n (bys u)] w' := by
  have lt : t.length = 32 := by rw [← ht, List.length_drop]; omega
  have lm : m.length = 32 := by rw [← hm]; exact macB_length ..
  have lcn : (c.take n).length = n := by rw [List.length_take]; omega
  refine enter (n := 33) (R := fun e L => ∃ v, e = .returned (.tuple #[v, .int .i64 0]) ∧ ∀ w', St [] w L w' → St [] w [.row 5 1 v n (bys u)] w') [.agg (bys k).toArray, .slice B lb cb, .slice C lc cc] Try.func38 rfl rfl rfl (St.refl w) ?_ (fun e w' L' h H => by obtain ⟨v, h1, h2⟩ := h; exact ⟨v, h1, h2 w' H⟩)
  refine VC_seq ?_
  refine VC_region ?_
  refine l_boxA rfl rfl ?_
  intro b3
  refine vl_v (q_assign rfl) rfl ?_
  refine vl_v (q_assign rfl) rfl ?_
  refine vl_nil ?_
  refine (th_n ?_)
  refine VC_seq ?_
  refine VC_region ?_
  refine vl_v (q_move rfl) rfl ?_
  refine vl_v (q_lenS Try.underlying24 rfl) rfl ?_
  refine vl_v (q_as (v := vN n) (q_sub_n (q := 32) (p := lc) rfl rfl (by omega) (by omega)) (by rw [hlc, hn]; rfl)) rfl ?_
  refine vl_v (q_assign rfl) rfl ?_
  refine vl_nil ?_
  refine (th_n ?_)
  refine VC_seq ?_
  refine VC_seq ?_
  refine VC_region ?_
  refine vl_v (q_move rfl) rfl ?_
  refine vl_v (q_false (q_lss_n (q := 0) Try.underlying3 rfl rfl) (by simp)) rfl ?_
  refine vl_nil ?_
  refine (th_n ?_)
  refine VC_no (rfl) ?_
  refine VC_skip ?_
  refine (th_n ?_)
  refine VC_seq ?_
  refine VC_drawM 7 [[], [], [], [], [2, 3], [0, 1, 4], [], [6, 5, 0, 1, 2, 3, 4]] [[], [], [], [], [2, 3], [0, 1, 2, 3, 4], [], [0, 1, 2, 3, 4, 5, 6]] rfl (by kernel_rfl) ?_
  first | (refine qm_v (fun xs hx => q_loads 0 Try.underlying23 rfl rfl rfl sz23 (by first | omega | with_reducible assumption | (simp only [zb, zu, zw, zi, za]; omega) | (simp only [zs, zr, zm, za, zb, zu, zw, zi, zt, zd, zc, zn, *] <;> first | done | omega) | rfl)) ?_) | (refine qm_v (fun xs hx => q_loadsAt 0 Try.underlying23 rfl rfl rfl sz23 (by rfl) (by first | omega | with_reducible assumption | (simp only [zb, zu, zw, zi, za]; omega) | (simp only [zs, zr, zm, za, zb, zu, zw, zi, zt, zd, zc, zn, *] <;> first | done | omega) | rfl)) ?_)
  refine qm_v (fun xs hx => q_move rfl) ?_
  refine qm_v (fun xs hx => q_move rfl) ?_
  refine qm_v (fun xs hx => q_move rfl) ?_
  refine qm_v (fun xs hx => q_slcS0 (h := n) (m := cc) Try.underlying24 sz5 rfl ⟨_, rfl⟩ rfl (.inl rfl) (by omega) (by omega)) ?_
  refine qm_v (fun xs hx => q_callV Try.func50 rfl rfl rfl (fun w1 H1 => rtag5_calls k b (c.take n) g _ m hg rfl hm hk B C lb n cb cc hlb lcn.symm (by omega) (by omega) w1 (Reads.old hB w1 H1) ((Reads.old hC).take n (bys_take _ _) w1 H1) hcb (by omega))) ?_
  refine qm_a (fun xs hx => q_alloc zr23 rfl) ?_
  refine qm_end ?_
  intro xs hx
  obtain ⟨⟨b9, e9⟩, _⟩ := hx
  simp only [e9]
  simp only [resT, nRow, nBlk, nRowT, tupAt_0, List.append_assoc, List.nil_append, List.append_nil, List.cons_append, List.singleton_append, e9]
  refine VL.keep (Sub.cons (s := 0) rfl (Sub.cons (s := 1) rfl (Sub.cons (s := 2) rfl (Sub.cons (s := 3) rfl (Sub.cons (s := 6) rfl (Sub.cons (s := 7) rfl (Sub.cons (s := 8) rfl (Sub.cons (s := 14) rfl (Sub.cons (s := 20) rfl (Sub.cons (s := 9) rfl (Sub.nil _))))))))))) ?_
  refine l_storeA 0 rfl rfl rfl sz23 (by first | omega | with_reducible assumption | (simp only [zb, zu, zw, zi, za]; omega) | (simp only [zs, zr, zm, za, zb, zu, zw, zi, zt, zd, zc, zn, *] <;> first | done | omega) | rfl) (by first | (with_reducible first | exact bys_one _ | exact u32s_one _ | exact u64s_one _ | exact i64s_one _ | exact n64s_one _ | assumption) | exact bys_one _ | exact u32s_one _ | exact u64s_one _ | exact i64s_one _ | exact one_all rfl | (refine app_one ?_ ?_ <;> first | exact bys_one _ | (simp; done))) (by first | omega | with_reducible assumption | (simp only [zb, zu, zw, zi, za]; omega) | (simp only [zs, zr, zm, za, zb, zu, zw, zi, zt, zd, zc, zn, *] <;> first | done | omega) | rfl) ?_
  simp only [List.set_cons_zero, List.set_cons_succ]
  refine vl_nil ?_
  refine (qn_n (th_n ?_))
  refine VC_seq ?_
  refine VC_seq ?_
  refine VC_drawV 6 [[], [0], [], [], [2, 3], [4], [1, 5]] [[], [0], [], [], [2, 3], [2, 3, 4], [0, 1, 2, 3, 4, 5]] rfl (by kernel_rfl) ?_
  refine qv_v (q_slcA Try.underlying23 sz5 rfl rfl rfl rfl (.inl rfl) (by omega) (by omega) (by omega) (by omega) (by (try simp only [Nat.mul_one, Nat.zero_add, Nat.zero_mul, Nat.mul_zero, Nat.add_zero]) <;> rfl)) ?_
  refine qv_v (q_str (l := m) Try.underlying24 Try.underlying5 Try.underlying9 rfl (Reads.blk 0 rfl) lm.symm) ?_
  refine qv_v (q_move rfl) ?_
  refine qv_v (q_move rfl) ?_
  refine qv_v (q_as (v := .slice (PBYtkadnmoephkklaa.adv C n cc 1) 32 (cc - n)) (q_slcS (l := n) (h := lc) (m := cc) Try.underlying24 sz5 rfl ⟨_, rfl⟩ rfl rfl (.inl rfl) (by omega) (by omega) (by omega)) (by rw [show lc - n = 32 by omega])) ?_
  refine qv_v (q_str (l := t) Try.underlying24 Try.underlying5 Try.underlying9 rfl (fun w1 H1 => by have h := slRest (hC.keep H1.kept) n cc (by omega); rw [ht] at h; exact h) lt.symm) ?_
  refine qv_end ?_
  refine VL.keep (Sub.cons (s := 0) rfl (Sub.cons (s := 1) rfl (Sub.cons (s := 2) rfl (Sub.cons (s := 3) rfl (Sub.cons (s := 6) rfl (Sub.cons (s := 7) rfl (Sub.cons (s := 8) rfl (Sub.cons (s := 14) rfl (Sub.cons (s := 9) rfl (Sub.cons (s := 22) rfl (Sub.cons (s := 26) rfl (Sub.nil _)))))))))))) ?_
  refine vl_v (q_as (v := .bool false) (q_neStr Try.underlying9 rfl rfl) (by rw [decide_eq_true hmt]; rfl)) rfl ?_
  refine vl_nil ?_
  refine (qn_n (th_n ?_))
  refine VC_no (rfl) ?_
  refine VC_skip ?_
  refine (th_n ?_)
  refine VC_seq ?_
  refine VC_drawV 4 [[], [], [], [1, 2], [0, 3], [4, 0, 1, 2, 3], [5, 0, 1, 2, 3, 4]] [[], [], [], [1, 2], [0, 1, 2, 3], [0, 1, 2, 3, 4], [0, 1, 2, 3, 4, 5]] rfl (by kernel_rfl) ?_
  first | (refine qv_v (q_loads 1 Try.underlying23 rfl rfl rfl sz23 (by first | omega | with_reducible assumption | (simp only [zb, zu, zw, zi, za]; omega) | (simp only [zs, zr, zm, za, zb, zu, zw, zi, zt, zd, zc, zn, *] <;> first | done | omega) | rfl)) ?_) | (refine qv_v (q_loadsAt 1 Try.underlying23 rfl rfl rfl sz23 (by rfl) (by first | omega | with_reducible assumption | (simp only [zb, zu, zw, zi, za]; omega) | (simp only [zs, zr, zm, za, zb, zu, zw, zi, zt, zd, zc, zn, *] <;> first | done | omega) | rfl)) ?_)
  refine qv_v (q_move rfl) ?_
  refine qv_v (q_move rfl) ?_
  refine qv_v (q_slcS0 (h := n) (m := cc) Try.underlying24 sz5 rfl ⟨_, rfl⟩ rfl (.inl rfl) (by omega) (by omega)) ?_
  refine qv_end ?_
  refine VL.keep (Sub.cons (s := 0) rfl (Sub.cons (s := 1) rfl (Sub.cons (s := 2) rfl (Sub.cons (s := 3) rfl (Sub.cons (s := 6) rfl (Sub.cons (s := 7) rfl (Sub.cons (s := 8) rfl (Sub.cons (s := 14) rfl (Sub.cons (s := 9) rfl (Sub.cons (s := 27) rfl (Sub.cons (s := 28) rfl (Sub.cons (s := 31) rfl (Sub.nil _))))))))))))) ?_
  refine l_callR Try.func49 rfl rfl rfl (fun w1 H1 => by have h := rturn5_calls k (c.take n) a u ha hu hk C n cc lcn.symm (by omega) w1 ((Reads.old hC).take n (bys_take _ _) w1 H1) (by omega); rw [lcn] at h; exact h) rfl ?_
  intro A32 c32 hc32 hm32
  refine vl_v (q_assign rfl) rfl ?_
  refine vl_v (q_assign rfl) rfl ?_
  refine vl_nil ?_
  refine (qn_n (th_n ?_))
  refine VC_ret ?_
  refine ⟨_, res2 rfl rfl rfl, ?_⟩
  exact ⟨_, rfl, fun w' H' => St.pick H' (ks := [0]) (by decide) rfl⟩
set_option maxHeartbeats 1000000 in
theorem ropen5_bad (k b c t g m : List UInt8) (n : Nat) (hg : keyP k tTag = g) (hm : macB g (joinB [k, b, c.take n]) = m) (hk : k.length = 32) (B C : Option Addr) (lb lc cb cc : Nat) (hn : c.length = n + 32) (ht : c.drop n = t) (hlb : lb = b.length) (hlc : lc = c.length) (hb : b.length ≤ 10000) (hc : c.length ≤ 10000) (hmt : ¬ m = t) (w : World) (hB : SlAt w B (bys b)) (hC : SlAt w C (bys c)) (hcb : lb ≤ cb) (hcc : lc ≤ cc) :
    Calls Try.prog 38 #[.agg (bys k).toArray, .slice B lb cb, .slice C lc cc] w fun e w' => e = .returned (.tuple #[.slice none 0 0, .int .i64 4]) ∧ Kept [] w w' := by
  have lt : t.length = 32 := by rw [← ht, List.length_drop]; omega
  have lm : m.length = 32 := by rw [← hm]; exact macB_length ..
  have lcn : (c.take n).length = n := by rw [List.length_take]; omega
  refine enter (n := 33) (R := fun e L => e = .returned (.tuple #[.slice none 0 0, .int .i64 4])) [.agg (bys k).toArray, .slice B lb cb, .slice C lc cc] Try.func38 rfl rfl rfl (St.refl w) ?_ (fun e w' L' h H => ⟨h, H.kept⟩)
  refine VC_seq ?_
  refine VC_region ?_
  refine l_boxA rfl rfl ?_
  intro b3
  refine vl_v (q_assign rfl) rfl ?_
  refine vl_v (q_assign rfl) rfl ?_
  refine vl_nil ?_
  refine (th_n ?_)
  refine VC_seq ?_
  refine VC_region ?_
  refine vl_v (q_move rfl) rfl ?_
  refine vl_v (q_lenS Try.underlying24 rfl) rfl ?_
  refine vl_v (q_as (v := vN n) (q_sub_n (q := 32) (p := lc) rfl rfl (by omega) (by omega)) (by rw [hlc, hn]; rfl)) rfl ?_
  refine vl_v (q_assign rfl) rfl ?_
  refine vl_nil ?_
  refine (th_n ?_)
  refine VC_seq ?_
  refine VC_seq ?_
  refine VC_region ?_
  refine vl_v (q_move rfl) rfl ?_
  refine vl_v (q_false (q_lss_n (q := 0) Try.underlying3 rfl rfl) (by simp)) rfl ?_
  refine vl_nil ?_
  refine (th_n ?_)
  refine VC_no (rfl) ?_
  refine VC_skip ?_
  refine (th_n ?_)
  refine VC_seq ?_
  refine VC_drawM 7 [[], [], [], [], [2, 3], [0, 1, 4], [], [6, 5, 0, 1, 2, 3, 4]] [[], [], [], [], [2, 3], [0, 1, 2, 3, 4], [], [0, 1, 2, 3, 4, 5, 6]] rfl (by kernel_rfl) ?_
  first | (refine qm_v (fun xs hx => q_loads 0 Try.underlying23 rfl rfl rfl sz23 (by first | omega | with_reducible assumption | (simp only [zb, zu, zw, zi, za]; omega) | (simp only [zs, zr, zm, za, zb, zu, zw, zi, zt, zd, zc, zn, *] <;> first | done | omega) | rfl)) ?_) | (refine qm_v (fun xs hx => q_loadsAt 0 Try.underlying23 rfl rfl rfl sz23 (by rfl) (by first | omega | with_reducible assumption | (simp only [zb, zu, zw, zi, za]; omega) | (simp only [zs, zr, zm, za, zb, zu, zw, zi, zt, zd, zc, zn, *] <;> first | done | omega) | rfl)) ?_)
  refine qm_v (fun xs hx => q_move rfl) ?_
  refine qm_v (fun xs hx => q_move rfl) ?_
  refine qm_v (fun xs hx => q_move rfl) ?_
  refine qm_v (fun xs hx => q_slcS0 (h := n) (m := cc) Try.underlying24 sz5 rfl ⟨_, rfl⟩ rfl (.inl rfl) (by omega) (by omega)) ?_
  refine qm_v (fun xs hx => q_callV Try.func50 rfl rfl rfl (fun w1 H1 => rtag5_calls k b (c.take n) g _ m hg rfl hm hk B C lb n cb cc hlb lcn.symm (by omega) (by omega) w1 (Reads.old hB w1 H1) ((Reads.old hC).take n (bys_take _ _) w1 H1) hcb (by omega))) ?_
  refine qm_a (fun xs hx => q_alloc zr23 rfl) ?_
  refine qm_end ?_
  intro xs hx
  obtain ⟨⟨b9, e9⟩, _⟩ := hx
  simp only [e9]
  simp only [resT, nRow, nBlk, nRowT, tupAt_0, List.append_assoc, List.nil_append, List.append_nil, List.cons_append, List.singleton_append, e9]
  refine VL.keep (Sub.cons (s := 0) rfl (Sub.cons (s := 1) rfl (Sub.cons (s := 2) rfl (Sub.cons (s := 3) rfl (Sub.cons (s := 6) rfl (Sub.cons (s := 7) rfl (Sub.cons (s := 8) rfl (Sub.cons (s := 14) rfl (Sub.cons (s := 20) rfl (Sub.cons (s := 9) rfl (Sub.nil _))))))))))) ?_
  refine l_storeA 0 rfl rfl rfl sz23 (by first | omega | with_reducible assumption | (simp only [zb, zu, zw, zi, za]; omega) | (simp only [zs, zr, zm, za, zb, zu, zw, zi, zt, zd, zc, zn, *] <;> first | done | omega) | rfl) (by first | (with_reducible first | exact bys_one _ | exact u32s_one _ | exact u64s_one _ | exact i64s_one _ | exact n64s_one _ | assumption) | exact bys_one _ | exact u32s_one _ | exact u64s_one _ | exact i64s_one _ | exact one_all rfl | (refine app_one ?_ ?_ <;> first | exact bys_one _ | (simp; done))) (by first | omega | with_reducible assumption | (simp only [zb, zu, zw, zi, za]; omega) | (simp only [zs, zr, zm, za, zb, zu, zw, zi, zt, zd, zc, zn, *] <;> first | done | omega) | rfl) ?_
  simp only [List.set_cons_zero, List.set_cons_succ]
  refine vl_nil ?_
  refine (qn_n (th_n ?_))
  refine VC_seq ?_
  refine VC_seq ?_
  refine VC_drawV 6 [[], [0], [], [], [2, 3], [4], [1, 5]] [[], [0], [], [], [2, 3], [2, 3, 4], [0, 1, 2, 3, 4, 5]] rfl (by kernel_rfl) ?_
  refine qv_v (q_slcA Try.underlying23 sz5 rfl rfl rfl rfl (.inl rfl) (by omega) (by omega) (by omega) (by omega) (by (try simp only [Nat.mul_one, Nat.zero_add, Nat.zero_mul, Nat.mul_zero, Nat.add_zero]) <;> rfl)) ?_
  refine qv_v (q_str (l := m) Try.underlying24 Try.underlying5 Try.underlying9 rfl (Reads.blk 0 rfl) lm.symm) ?_
  refine qv_v (q_move rfl) ?_
  refine qv_v (q_move rfl) ?_
  refine qv_v (q_as (v := .slice (PBYtkadnmoephkklaa.adv C n cc 1) 32 (cc - n)) (q_slcS (l := n) (h := lc) (m := cc) Try.underlying24 sz5 rfl ⟨_, rfl⟩ rfl rfl (.inl rfl) (by omega) (by omega) (by omega)) (by rw [show lc - n = 32 by omega])) ?_
  refine qv_v (q_str (l := t) Try.underlying24 Try.underlying5 Try.underlying9 rfl (fun w1 H1 => by have h := slRest (hC.keep H1.kept) n cc (by omega); rw [ht] at h; exact h) lt.symm) ?_
  refine qv_end ?_
  refine VL.keep (Sub.cons (s := 0) rfl (Sub.cons (s := 1) rfl (Sub.cons (s := 2) rfl (Sub.cons (s := 3) rfl (Sub.cons (s := 6) rfl (Sub.cons (s := 7) rfl (Sub.cons (s := 8) rfl (Sub.cons (s := 14) rfl (Sub.cons (s := 9) rfl (Sub.cons (s := 22) rfl (Sub.cons (s := 26) rfl (Sub.nil _)))))))))))) ?_
  refine vl_v (q_as (v := .bool true) (q_neStr Try.underlying9 rfl rfl) (by rw [decide_eq_false hmt]; rfl)) rfl ?_
  refine vl_nil ?_
  refine (qn_n (th_n ?_))
  refine VC_yes (rfl) ?_
  refine VC_seq ?_
  refine VC_region ?_
  refine vl_v (q_assign rfl) rfl ?_
  refine vl_v (q_assign rfl) rfl ?_
  refine vl_nil ?_
  refine (th_n ?_)
  refine VC_ret ?_
  refine (th_r ?_)
  refine ⟨_, res2 rfl rfl rfl, ?_⟩
  exact rfl
end Go.Proofs.Ytkadnmoephkklaa
