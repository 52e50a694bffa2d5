/- What the functions of package chain do: two keys of a key, a step. Conditions: lengths. -/
import Derived.Test.YtkadnmoephkklaaA03
namespace Go.Proofs.Ytkadnmoephkklaa
open Go.RowKit Go.PBYtkadnmoephkklaa
set_option linter.unusedVariables false
set_option linter.unusedSimpArgs false
set_option maxRecDepth 10000

def keyP (k p : List UInt8) : List UInt8 := macB k (p ++ [1])
theorem keyP_length (k p : List UInt8) : (keyP k p).length = 32 := macB_length ..
theorem spreadP (k p : List UInt8) : spread k p 32 = keyP k p := spread32 k p

set_option maxHeartbeats 2000000 in
theorem two_calls (k p q : List UInt8) (hk : k.length = 32) (hp : p.length ≤ 1000) (hq : q.length ≤ 1000) (w : World) :
    Calls Try.prog 43 #[.agg (bys k).toArray, .string ⟨p.toArray⟩, .string ⟨q.toArray⟩] w fun e w' => e = .returned (.tuple #[.agg (bys (keyP k p)).toArray, .agg (bys (keyP k q)).toArray]) ∧ Kept [] w w' := by
  have hp1 := keyP_length k p
  have hq1 := keyP_length k q
  refine enter (n := 20) (R := fun e L => e = .returned (.tuple #[.agg (bys (keyP k p)).toArray, .agg (bys (keyP k q)).toArray])) [.agg (bys k).toArray, .string ⟨p.toArray⟩, .string ⟨q.toArray⟩] Try.func43 rfl rfl rfl (St.refl w) ?_ (fun e w' L' h H => ⟨h, H.kept⟩)
  refine VC_seq ?_
  refine VC_region ?_
  refine l_boxA rfl rfl ?_
  intro b3
  refine l_allocA zr23 rfl ?_
  intro b6
  refine l_allocA zr23 rfl ?_
  intro b7
  refine vl_nil ?_
  refine (th_n ?_)
  refine VC_seq ?_
  refine VC_region ?_
  first | (refine vl_v (q_loads 2 Try.underlying23 rfl rfl rfl sz23 (by first | omega | with_reducible assumption | (simp only [zb, zu, zw, zi, za]; omega) | (simp only [zs, zr, zm, za, zb, zu, zw, zi, zt, zd, zc, zn, *] <;> first | done | omega) | rfl)) rfl ?_) | (refine vl_v (q_loadsAt 2 Try.underlying23 rfl rfl rfl sz23 (by rfl) (by first | omega | with_reducible assumption | (simp only [zb, zu, zw, zi, za]; omega) | (simp only [zs, zr, zm, za, zb, zu, zw, zi, zt, zd, zc, zn, *] <;> first | done | omega) | rfl)) rfl ?_)
  refine vl_v (q_move rfl) rfl ?_
  refine vl_v (q_move rfl) rfl ?_
  refine l_litA (cs := strs [p, q]) Try.underlying31 in9 (by decide) rfl rfl rfl rfl (one_all rfl) rfl rfl ?_
  intro b12
  refine l_callR Try.func22 rfl rfl rfl (fun w1 H1 => keys_calls k [p, q] _ 2 2 hk rfl (by simp) (by intro x hx; simp only [List.mem_cons, List.not_mem_nil, or_false] at hx; rcases hx with rfl | rfl <;> assumption) w1 (Reads.row 0 rfl w1 H1) (by omega)) rfl ?_
  intro A13 c13 hc13 hm13
  refine vl_v (q_assign rfl) rfl ?_
  refine vl_nil ?_
  refine (th_n ?_)
  refine VC_seq ?_
  refine VC_rowBlk (by omega) ?_
  intro bK more eA
  subst eA
  refine VC_drawQ 7 5 [[], [0], [1], [], [3], [4], [2, 0, 1], [5, 6, 0, 1, 2, 3, 4]] [[], [0], [0, 1], [], [3], [3, 4], [0, 1, 2], [0, 1, 2, 3, 4, 5, 6]] [([], [], [], [0, 1, 2, 3, 4], []), ([0], [], [], [0, 1, 2, 3, 4], [0]), ([0, 1], [], [], [0, 1, 2, 3, 4], [0, 1]), ([], [], [], [0, 1, 2, 4], []), ([3], [], [], [0, 1, 2, 4], [3]), ([3, 4], [], [], [0, 1, 2, 4], [3, 4]), ([0, 1, 2], [3], [], [0, 1, 2, 4], [0, 1, 2])] [0, 1, 2, 4] [0, 1, 2, 3, 4, 5, 6] rfl rfl (by kernel_rfl) ?_
  refine qp_v (fun xs gs hx => q_move rfl) ?_
  refine qp_v (fun xs gs hx => q_idxS0 (m := 0) Try.underlying32 sz23 rfl rfl (by omega) rfl) ?_
  refine qp_v (fun xs gs hx => q_loadsAt (vs := bys (keyP k p)) 0 Try.underlying23 rfl rfl rfl sz23 (by have h := keyPart (k := k) (ps := [p, q]) (more := more) 0 (by simp) 0 rfl; rw [spreadP] at h; exact h) (by rw [bys_length, hp1])) ?_
  refine qp_v (fun xs gs hx => q_move rfl) ?_
  refine qp_v (fun xs gs hx => q_idxS0 (m := 1) Try.underlying32 sz23 rfl rfl (by omega) rfl) ?_
  refine qp_v (fun xs gs hx => q_loadsAt (vs := bys (keyP k q)) 0 Try.underlying23 rfl rfl rfl sz23 (by have h := keyPart (k := k) (ps := [p, q]) (more := more) 1 (by simp) 32 rfl; rw [spreadP] at h; exact h) (by rw [bys_length, hq1])) ?_
  refine qp_storeA (fun xs gs hx => rfl) (fun xs gs hx => rfl) (fun xs gs hx => rfl) sz23 (fun xs gs hx => by first | omega | with_reducible assumption | (simp only [zb, zu, zw, zi, za]; omega) | (simp only [zs, zr, zm, za, zb, zu, zw, zi, zt, zd, zc, zn, *] <;> first | done | omega) | rfl) (fun xs gs hx => by first | (with_reducible first | exact bys_one _ | exact u32s_one _ | exact u64s_one _ | exact i64s_one _ | exact n64s_one _ | assumption) | exact bys_one _ | exact u32s_one _ | exact u64s_one _ | exact i64s_one _ | exact one_all rfl | (refine app_one ?_ ?_ <;> first | exact bys_one _ | (simp; done))) (fun xs gs hx => by first | omega | with_reducible assumption | (simp only [zb, zu, zw, zi, za]; omega) | (simp only [zs, zr, zm, za, zb, zu, zw, zi, zt, zd, zc, zn, *] <;> first | done | omega) | rfl) ?_
  refine qp_end ?_
  intro xs gs hx
  obtain ⟨_, _⟩ := hx
  simp only [selI, ownsA, List.contains_cons, List.contains_nil, Nat.reduceBEq, Nat.reduceAdd, Bool.or_false, Bool.or_true, Bool.false_or, Bool.true_or, mask, nRow, nBlk, nRowT, tupAt_0, tupAt_1, List.append_assoc, List.nil_append, List.append_nil, List.cons_append, List.singleton_append]
  refine VL.keep (Sub.cons (s := 0) rfl (Sub.cons (s := 1) rfl (Sub.cons (s := 2) rfl (Sub.cons (s := 3) rfl (Sub.cons (s := 6) rfl (Sub.cons (s := 7) rfl (Sub.cons (s := 8) rfl (Sub.cons (s := 19) rfl (Sub.nil _))))))))) ?_
  refine l_storeA 2 rfl rfl rfl sz23 (by first | omega | with_reducible assumption | (simp only [zb, zu, zw, zi, za]; omega) | (simp only [zs, zr, zm, za, zb, zu, zw, zi, zt, zd, zc, zn, *] <;> first | done | omega) | rfl) (by first | (with_reducible first | exact bys_one _ | exact u32s_one _ | exact u64s_one _ | exact i64s_one _ | exact n64s_one _ | assumption) | exact bys_one _ | exact u32s_one _ | exact u64s_one _ | exact i64s_one _ | exact one_all rfl | (refine app_one ?_ ?_ <;> first | exact bys_one _ | (simp; done))) (by first | omega | with_reducible assumption | (simp only [zb, zu, zw, zi, za]; omega) | (simp only [zs, zr, zm, za, zb, zu, zw, zi, zt, zd, zc, zn, *] <;> first | done | omega) | rfl) ?_
  simp only [List.set_cons_zero, List.set_cons_succ]
  refine vl_nil ?_
  refine (qn_n (th_n ?_))
  refine VC_ret ?_
  refine ⟨_, resCC 4 2 rfl Try.underlying23 rfl rfl rfl sz23 (by first | omega | with_reducible assumption | (simp only [zb, zu, zw, zi, za]; omega) | (simp only [zs, zr, zm, za, zb, zu, zw, zi, zt, zd, zc, zn, *] <;> first | done | omega) | rfl) Try.underlying23 rfl rfl rfl sz23 (by first | omega | with_reducible assumption | (simp only [zb, zu, zw, zi, za]; omega) | (simp only [zs, zr, zm, za, zb, zu, zw, zi, zt, zd, zc, zn, *] <;> first | done | omega) | rfl), ?_⟩
  exact rfl
abbrev tMsg : List UInt8 := [109, 101, 115, 115, 97, 103, 101]
abbrev tChain : List UInt8 := [99, 104, 97, 105, 110]
abbrev tRoot : List UInt8 := [114, 111, 111, 116]
set_option maxHeartbeats 2000000 in
theorem step_calls (k : List UInt8) (hk : k.length = 32) (w : World) :
    Calls Try.prog 28 #[.agg (bys k).toArray] w fun e w' => e = .returned (.tuple #[.agg (bys (keyP k tMsg)).toArray, .agg (bys (keyP k tChain)).toArray]) ∧ Kept [] w w' := by
  have hp1 := keyP_length k tMsg
  have hq1 := keyP_length k tChain
  refine enter (n := 8) (R := fun e L => e = .returned (.tuple #[.agg (bys (keyP k tMsg)).toArray, .agg (bys (keyP k tChain)).toArray])) [.agg (bys k).toArray] Try.func28 rfl rfl rfl (St.refl w) ?_ (fun e w' L' h H => ⟨h, H.kept⟩)
  refine VC_seq ?_
  refine VC_region ?_
  refine l_boxA rfl rfl ?_
  intro b1
  refine l_allocA zr23 rfl ?_
  intro b2
  refine l_allocA zr23 rfl ?_
  intro b3
  refine vl_nil ?_
  refine (th_n ?_)
  refine VC_seq ?_
  refine VC_region ?_
  first | (refine vl_v (q_loads 2 Try.underlying23 rfl rfl rfl sz23 (by first | omega | with_reducible assumption | (simp only [zb, zu, zw, zi, za]; omega) | (simp only [zs, zr, zm, za, zb, zu, zw, zi, zt, zd, zc, zn, *] <;> first | done | omega) | rfl)) rfl ?_) | (refine vl_v (q_loadsAt 2 Try.underlying23 rfl rfl rfl sz23 (by rfl) (by first | omega | with_reducible assumption | (simp only [zb, zu, zw, zi, za]; omega) | (simp only [zs, zr, zm, za, zb, zu, zw, zi, zt, zd, zc, zn, *] <;> first | done | omega) | rfl)) rfl ?_)
  refine vl_v (q_callV Try.func43 rfl rfl rfl (fun w1 H1 => two_calls k tMsg tChain hk (by decide) (by decide) w1)) rfl ?_
  refine vl_v (q_ext rfl rfl) rfl ?_
  refine vl_v (q_ext rfl rfl) rfl ?_
  refine l_storeA 1 rfl rfl rfl sz23 (by first | omega | with_reducible assumption | (simp only [zb, zu, zw, zi, za]; omega) | (simp only [zs, zr, zm, za, zb, zu, zw, zi, zt, zd, zc, zn, *] <;> first | done | omega) | rfl) (by first | (with_reducible first | exact bys_one _ | exact u32s_one _ | exact u64s_one _ | exact i64s_one _ | exact n64s_one _ | assumption) | exact bys_one _ | exact u32s_one _ | exact u64s_one _ | exact i64s_one _ | exact one_all rfl | (refine app_one ?_ ?_ <;> first | exact bys_one _ | (simp; done))) (by first | omega | with_reducible assumption | (simp only [zb, zu, zw, zi, za]; omega) | (simp only [zs, zr, zm, za, zb, zu, zw, zi, zt, zd, zc, zn, *] <;> first | done | omega) | rfl) ?_
  simp only [List.set_cons_zero, List.set_cons_succ]
  refine l_storeA 0 rfl rfl rfl sz23 (by first | omega | with_reducible assumption | (simp only [zb, zu, zw, zi, za]; omega) | (simp only [zs, zr, zm, za, zb, zu, zw, zi, zt, zd, zc, zn, *] <;> first | done | omega) | rfl) (by first | (with_reducible first | exact bys_one _ | exact u32s_one _ | exact u64s_one _ | exact i64s_one _ | exact n64s_one _ | assumption) | exact bys_one _ | exact u32s_one _ | exact u64s_one _ | exact i64s_one _ | exact one_all rfl | (refine app_one ?_ ?_ <;> first | exact bys_one _ | (simp; done))) (by first | omega | with_reducible assumption | (simp only [zb, zu, zw, zi, za]; omega) | (simp only [zs, zr, zm, za, zb, zu, zw, zi, zt, zd, zc, zn, *] <;> first | done | omega) | rfl) ?_
  simp only [List.set_cons_zero, List.set_cons_succ]
  refine vl_nil ?_
  refine (th_n ?_)
  refine VC_ret ?_
  refine ⟨_, resCC 1 0 rfl Try.underlying23 rfl rfl rfl sz23 (by first | omega | with_reducible assumption | (simp only [zb, zu, zw, zi, za]; omega) | (simp only [zs, zr, zm, za, zb, zu, zw, zi, zt, zd, zc, zn, *] <;> first | done | omega) | rfl) Try.underlying23 rfl rfl rfl sz23 (by first | omega | with_reducible assumption | (simp only [zb, zu, zw, zi, za]; omega) | (simp only [zs, zr, zm, za, zb, zu, zw, zi, zt, zd, zc, zn, *] <;> first | done | omega) | rfl), ?_⟩
  exact rfl
set_option maxHeartbeats 2000000 in
theorem root_calls (r c : List UInt8) (hr : r.length = 32) (hc : c.length = 32) (w : World) :
    Calls Try.prog 30 #[.agg (bys r).toArray, .agg (bys c).toArray] w fun e w' => e = .returned (.tuple #[.agg (bys (keyP (macB r c) tRoot)).toArray, .agg (bys (keyP (macB r c) tChain)).toArray]) ∧ Kept [] w w' := by
  have hm := macB_length r c
  have hp1 := keyP_length (macB r c) tRoot
  have hq1 := keyP_length (macB r c) tChain
  refine enter (n := 12) (R := fun e L => e = .returned (.tuple #[.agg (bys (keyP (macB r c) tRoot)).toArray, .agg (bys (keyP (macB r c) tChain)).toArray])) [.agg (bys r).toArray, .agg (bys c).toArray] Try.func30 rfl rfl rfl (St.refl w) ?_ (fun e w' L' h H => ⟨h, H.kept⟩)
  refine VC_seq ?_
  refine VC_region ?_
  refine l_boxA rfl rfl ?_
  intro b2
  refine l_boxA rfl rfl ?_
  intro b3
  refine l_allocA zr23 rfl ?_
  intro b4
  refine l_allocA zr23 rfl ?_
  intro b5
  refine vl_nil ?_
  refine (th_n ?_)
  refine VC_seq ?_
  refine VC_drawV 6 [[], [], [0, 1], [2], [3], [3], [4, 3, 0, 1, 2, 5], [5, 6, 0, 1, 2, 3, 4]] [[], [], [0, 1], [0, 1, 2], [0, 1, 2, 3], [0, 1, 2, 3], [0, 1, 2, 3, 4, 5], [0, 1, 2, 3, 4, 5, 6]] rfl (by kernel_rfl) ?_
  first | (refine qv_v (q_loads 3 Try.underlying23 rfl rfl rfl sz23 (by first | omega | with_reducible assumption | (simp only [zb, zu, zw, zi, za]; omega) | (simp only [zs, zr, zm, za, zb, zu, zw, zi, zt, zd, zc, zn, *] <;> first | done | omega) | rfl)) ?_) | (refine qv_v (q_loadsAt 3 Try.underlying23 rfl rfl rfl sz23 (by rfl) (by first | omega | with_reducible assumption | (simp only [zb, zu, zw, zi, za]; omega) | (simp only [zs, zr, zm, za, zb, zu, zw, zi, zt, zd, zc, zn, *] <;> first | done | omega) | rfl)) ?_)
  refine qv_v (q_slcA Try.underlying23 sz5 rfl rfl rfl rfl (.inl rfl) (by omega) (by omega) (by omega) (by omega) (by (try simp only [Nat.mul_one, Nat.zero_add, Nat.zero_mul, Nat.mul_zero, Nat.add_zero]) <;> rfl)) ?_
  refine qv_v (q_callV Try.func20 rfl rfl rfl (fun w1 H1 => draw_calls r c _ _ _ hr hc.symm (by omega) w1 (Reads.blk 2 rfl w1 H1) (by omega))) ?_
  refine qv_v (q_callV Try.func43 rfl rfl rfl (fun w1 H1 => two_calls (macB r c) tRoot tChain hm (by decide) (by decide) w1)) ?_
  refine qv_v (q_ext rfl rfl) ?_
  refine qv_v (q_ext rfl rfl) ?_
  refine qv_end ?_
  refine VL.keep (Sub.cons (s := 0) rfl (Sub.cons (s := 1) rfl (Sub.cons (s := 2) rfl (Sub.cons (s := 3) rfl (Sub.cons (s := 4) rfl (Sub.cons (s := 5) rfl (Sub.cons (s := 10) rfl (Sub.cons (s := 11) rfl (Sub.nil _))))))))) ?_
  refine l_storeA 1 rfl rfl rfl sz23 (by first | omega | with_reducible assumption | (simp only [zb, zu, zw, zi, za]; omega) | (simp only [zs, zr, zm, za, zb, zu, zw, zi, zt, zd, zc, zn, *] <;> first | done | omega) | rfl) (by first | (with_reducible first | exact bys_one _ | exact u32s_one _ | exact u64s_one _ | exact i64s_one _ | exact n64s_one _ | assumption) | exact bys_one _ | exact u32s_one _ | exact u64s_one _ | exact i64s_one _ | exact one_all rfl | (refine app_one ?_ ?_ <;> first | exact bys_one _ | (simp; done))) (by first | omega | with_reducible assumption | (simp only [zb, zu, zw, zi, za]; omega) | (simp only [zs, zr, zm, za, zb, zu, zw, zi, zt, zd, zc, zn, *] <;> first | done | omega) | rfl) ?_
  simp only [List.set_cons_zero, List.set_cons_succ]
  refine l_storeA 0 rfl rfl rfl sz23 (by first | omega | with_reducible assumption | (simp only [zb, zu, zw, zi, za]; omega) | (simp only [zs, zr, zm, za, zb, zu, zw, zi, zt, zd, zc, zn, *] <;> first | done | omega) | rfl) (by first | (with_reducible first | exact bys_one _ | exact u32s_one _ | exact u64s_one _ | exact i64s_one _ | exact n64s_one _ | assumption) | exact bys_one _ | exact u32s_one _ | exact u64s_one _ | exact i64s_one _ | exact one_all rfl | (refine app_one ?_ ?_ <;> first | exact bys_one _ | (simp; done))) (by first | omega | with_reducible assumption | (simp only [zb, zu, zw, zi, za]; omega) | (simp only [zs, zr, zm, za, zb, zu, zw, zi, zt, zd, zc, zn, *] <;> first | done | omega) | rfl) ?_
  simp only [List.set_cons_zero, List.set_cons_succ]
  refine vl_nil ?_
  refine (qn_n (th_n ?_))
  refine VC_ret ?_
  refine ⟨_, resCC 1 0 rfl Try.underlying23 rfl rfl rfl sz23 (by first | omega | with_reducible assumption | (simp only [zb, zu, zw, zi, za]; omega) | (simp only [zs, zr, zm, za, zb, zu, zw, zi, zt, zd, zc, zn, *] <;> first | done | omega) | rfl) Try.underlying23 rfl rfl rfl sz23 (by first | omega | with_reducible assumption | (simp only [zb, zu, zw, zi, za]; omega) | (simp only [zs, zr, zm, za, zb, zu, zw, zi, zt, zd, zc, zn, *] <;> first | done | omega) | rfl), ?_⟩
  exact rfl
end Go.Proofs.Ytkadnmoephkklaa
