/- The document's own spreading. Conditions: lengths. -/
import Derived.Test.YtkadnmoephkklaaC03l
import Derived.Test.YtkadnmoephkklaaC03e
namespace Go.Proofs.Ytkadnmoephkklaa
open Go.RowKit Go.PBYtkadnmoephkklaa
set_option linter.unusedVariables false
set_option linter.unusedSimpArgs false
set_option maxRecDepth 10000

set_option maxHeartbeats 300000 in
theorem rspread_calls (k p : List UInt8) (m : Nat) (hk : k.length = 32) (hp : p.length ≤ 1000) (hm : m ≤ 2000) (w : World) :
    Calls Try.prog 19 #[.agg (bys k).toArray, .string ⟨p.toArray⟩, vN m] w fun e w' => ∃ A c c', e = .returned (.tuple #[.slice A m c', .int .i64 0]) ∧ m ≤ c' ∧ St [] w [.row 5 1 (.slice A (32 * ((m + 31) / 32)) c) (32 * ((m + 31) / 32)) (bys (sprOut k p ((m + 31) / 32)))] w' := by
  refine enter (n := 44) (R := fun e L => ∃ A c c', e = .returned (.tuple #[.slice A m c', .int .i64 0]) ∧ m ≤ c' ∧ ∀ w', St [] w L w' → St [] w [.row 5 1 (.slice A (32 * ((m + 31) / 32)) c) (32 * ((m + 31) / 32)) (bys (sprOut k p ((m + 31) / 32)))] w') [.agg (bys k).toArray, .string ⟨p.toArray⟩, vN m] Try.func19 rfl rfl rfl (St.refl w) ?_ (fun e w' L' h H => by obtain ⟨A, c, c', h1, h3, h2⟩ := h; exact ⟨A, c, c', h1, h3, h2 w' H⟩)
  refine VC_seq ?_
  refine VC_region ?_
  refine l_boxA rfl rfl ?_
  intro b3
  refine vl_v (q_assign rfl) rfl ?_
  refine vl_v (q_assign rfl) rfl ?_
  refine vl_nil ?_
  refine (th_n ?_)
  refine VC_seq ?_
  refine VC_seq ?_
  refine VC_region ?_
  refine vl_v (q_move rfl) rfl ?_
  refine vl_v (q_as (v := .bool false) (q_lss_n (q := 0) Try.underlying3 rfl rfl) (by simp)) rfl ?_
  refine vl_v (q_move rfl) rfl ?_
  refine vl_vg rfl (q_move rfl) rfl ?_
  refine vl_vg rfl (q_as (v := .bool false) (q_gtr_n (q := 2000) Try.underlying3 rfl rfl) (by simp <;> omega)) rfl ?_
  first | (refine vl_v (q_pickT rfl rfl) rfl ?_) | (refine vl_v (q_pickF rfl rfl) rfl ?_)
  refine vl_nil ?_
  refine (th_n ?_)
  refine VC_no (rfl) ?_
  refine VC_skip ?_
  refine (th_n ?_)
  refine VC_seq ?_
  refine VC_region ?_
  refine vl_v (q_assign rfl) rfl ?_
  refine vl_nil ?_
  refine (th_n ?_)
  refine VC_seq ?_
  refine VC_region ?_
  refine vl_v (q_assign rfl) rfl ?_
  refine vl_nil ?_
  refine (th_n ?_)
  refine VC_seq ?_
  refine VC_seq ?_
  refine VC_nilRow 5 1 ?_
  refine VC_nilRow 5 1 ?_
  refine VC_region ?_
  refine vl_v (q_assign rfl) rfl ?_
  refine vl_nil ?_
  refine (th_n ?_)
  refine VC_block ?_
  refine VC_loop (ι := Nat × Option Addr × Option Addr × Nat × Nat) (fun x => 32 * x.1 < m + 32 ∧ 32 * x.1 ≤ x.2.2.2.1 ∧ (sprLast k p x.1).length ≤ x.2.2.2.2) (fun x => [(1, .string ⟨p.toArray⟩), (2, vN m), (3, vP b3 0), (8, .slice x.2.2.1 (32 * x.1) x.2.2.2.1), (9, .slice x.2.1 (sprLast k p x.1).length x.2.2.2.2), (10, vN (x.1 + 1))]) (fun x => [.row 5 1 (.slice x.2.1 (sprLast k p x.1).length x.2.2.2.2) (sprLast k p x.1).length (bys (sprLast k p x.1)), .row 5 1 (.slice x.2.2.1 (32 * x.1) x.2.2.2.1) (32 * x.1) (bys (sprOut k p x.1)), .blk b3 23 (bys k)]) (fun x => m + 32 - 32 * x.1) (0, none, none, 0, 0) (⟨by show 32 * 0 < m + 32; omega, by show 32 * 0 ≤ 0; omega, Nat.le_refl _⟩) (Sub.cons (s := 1) rfl (Sub.cons (s := 2) rfl (Sub.cons (s := 3) rfl (Sub.cons (s := 8) rfl (Sub.cons (s := 9) rfl (Sub.cons (s := 10) rfl (Sub.nil _))))))) (fun w H => H) ?_
  rintro ⟨j, A9, A8, c8, c9⟩ hp
  obtain ⟨hp1, hp2, hp3⟩ := hp
  simp only at hp1 hp2 hp3
  have hll := sprLast_le k p j
  have hol := sprOut_length k p j
  refine VC_seq ?_
  refine VC_seq ?_
  refine VC_region ?_
  refine vl_v (q_move rfl) rfl ?_
  refine vl_v (q_lenS Try.underlying24 rfl) rfl ?_
  refine vl_v (q_move rfl) rfl ?_
  first | (refine vl_v (q_lss_n Try.underlying3 rfl rfl) rfl ?_) | (refine vl_v (q_lss_k Try.underlying3 rfl rfl) rfl ?_)
  refine vl_nil ?_
  refine (th_n ?_)
  refine VC_cond rfl (fun ht21 => ?_) (fun ht21 => ?_)
  · skip
    have ht21 := of_decide_eq_true ht21
    simp only at ht21
    refine VC_skip ?_
    refine (th_n ?_)
    refine VC_seq ?_
    refine VC_block ?_
    refine VC_seq ?_
    dsimp only
    obtain ⟨la, hla⟩ : ∃ la, la = sprLast k p j := ⟨_, rfl⟩
    rw [← hla]
    rw [← hla] at hll hp3
    obtain ⟨mc, hmc⟩ : ∃ mc, mc = macB k (la ++ p ++ [UInt8.ofNat (j + 1)]) := ⟨_, rfl⟩
    have hml : mc.length = 32 := by rw [hmc]; exact macB_length _ _
    have hnx : sprLast k p (j + 1) = mc := by rw [sprLast, ← hla, hmc]
    refine VC_drawQ 12 3 [[], [], [], [1, 2], [], [3, 4], [], [6], [7], [5, 8], [0, 9], [], [11, 10, 0, 1, 2, 3, 4, 5, 6, 7, 8, 9]] [[], [], [], [1, 2], [], [1, 2, 3, 4], [], [6], [6, 7], [1, 2, 3, 4, 5, 6, 7, 8], [0, 1, 2, 3, 4, 5, 6, 7, 8, 9], [], [0, 1, 2, 3, 4, 5, 6, 7, 8, 9, 10, 11]] [([], [], [], [0, 1, 2], []), ([], [], [], [0, 1, 2], []), ([], [], [], [0, 1, 2], []), ([1, 2], [], [1], [0, 1, 2], [2]), ([], [], [], [0, 1, 2], []), ([1, 2, 3, 4], [], [3], [0, 1, 2], [2, 4]), ([], [], [], [0, 1, 2], []), ([6], [], [], [0, 1, 2], [6]), ([6, 7], [], [], [0, 1, 2], [6, 7]), ([1, 2, 3, 4, 5, 6, 7, 8], [], [5], [0, 1, 2], [2, 4, 6, 7, 8]), ([0, 1, 2, 3, 4, 5, 6, 7, 8, 9], [], [], [0, 1, 2], [0, 2, 4, 6, 7, 8, 9]), ([], [], [], [0, 1, 2], [])] [0, 1, 2] [0, 2, 4, 6, 7, 8, 9, 10, 11] rfl rfl (by kernel_rfl) ?_
    first | (refine qp_v (fun xs gs hx => q_loads 2 Try.underlying23 rfl rfl rfl sz23 (by first | omega | with_reducible assumption | (simp only [zb, zu, zw, zi, za]; omega) | (simp only [zs, zr, zm, za, zb, zu, zw, zi, zt, zd, zc, zn, *] <;> first | done | omega) | rfl)) ?_) | (refine qp_v (fun xs gs hx => q_loadsAt 2 Try.underlying23 rfl rfl rfl sz23 (by rfl) (by first | omega | with_reducible assumption | (simp only [zb, zu, zw, zi, za]; omega) | (simp only [zs, zr, zm, za, zb, zu, zw, zi, zt, zd, zc, zn, *] <;> first | done | omega) | rfl)) ?_)
    refine qp_a (fun xs gs hx => q_litA (cs := bys []) Try.underlying24 in5 (by decide) rfl rfl rfl rfl (by first | (with_reducible first | exact bys_one _ | exact u32s_one _ | exact u64s_one _ | exact i64s_one _ | exact n64s_one _ | assumption) | exact bys_one _ | exact u32s_one _ | exact u64s_one _ | exact i64s_one _ | exact one_all rfl | (refine app_one ?_ ?_ <;> first | exact bys_one _ | (simp; done))) rfl) ?_
    refine qp_v (fun xs gs hx => q_move rfl) ?_
    refine qp_append Try.underlying24 Try.underlying24 in5 rfl (by decide) (fun xs gs hx => rfl) (fun xs gs hx => rfl) (fun xs gs hx => ⟨_, _, rfl, Reads.row 0 rfl⟩) (fun xs gs hx => by first | omega | with_reducible assumption | (simp only [zb, zu, zw, zi, za]; omega) | (simp only [zs, zr, zm, za, zb, zu, zw, zi, zt, zd, zc, zn, *] <;> first | done | omega) | rfl) (fun xs gs hx => by first | (with_reducible first | exact bys_one _ | exact u32s_one _ | exact u64s_one _ | exact i64s_one _ | exact n64s_one _ | assumption) | exact bys_one _ | exact u32s_one _ | exact u64s_one _ | exact i64s_one _ | exact one_all rfl | (refine app_one ?_ ?_ <;> first | exact bys_one _ | (simp; done))) (by first | omega | with_reducible assumption | (simp only [zb, zu, zw, zi, za]; omega) | (simp only [zs, zr, zm, za, zb, zu, zw, zi, zt, zd, zc, zn, *] <;> first | done | omega) | rfl) (by first | omega | with_reducible assumption | (simp only [zb, zu, zw, zi, za]; omega) | (simp only [zs, zr, zm, za, zb, zu, zw, zi, zt, zd, zc, zn, *] <;> first | done | omega) | rfl) ?_
    refine qp_v (fun xs gs hx => q_move rfl) ?_
    refine qp_appendS Try.underlying24 Try.underlying9 in5 rfl (by decide) (fun xs gs hx => rfl) (fun xs gs hx => rfl) (fun xs gs hx => rfl) (by first | omega | with_reducible assumption | (simp only [zb, zu, zw, zi, za]; omega) | (simp only [zs, zr, zm, za, zb, zu, zw, zi, zt, zd, zc, zn, *] <;> first | done | omega) | rfl) (by first | omega | with_reducible assumption | (simp only [zb, zu, zw, zi, za]; omega) | (simp only [zs, zr, zm, za, zb, zu, zw, zi, zt, zd, zc, zn, *] <;> first | done | omega) | rfl) ?_
    refine qp_v (fun xs gs hx => q_move rfl) ?_
    refine qp_v (fun xs gs hx => q_conv_nu8 Try.underlying3 Try.underlying5 rfl) ?_
    refine qp_a (fun xs gs hx => q_litA (cs := bys [_]) Try.underlying24 in5 (by decide) rfl rfl rfl rfl (by first | (with_reducible first | exact bys_one _ | exact u32s_one _ | exact u64s_one _ | exact i64s_one _ | exact n64s_one _ | assumption) | exact bys_one _ | exact u32s_one _ | exact u64s_one _ | exact i64s_one _ | exact one_all rfl | (refine app_one ?_ ?_ <;> first | exact bys_one _ | (simp; done))) rfl) ?_
    refine qp_append Try.underlying24 Try.underlying24 in5 rfl (by decide) (fun xs gs hx => rfl) (fun xs gs hx => rfl) (fun xs gs hx => (let ⟨b', e'⟩ := hx.2.2.2.1 rfl; ⟨_, _, congrArg some e', Reads.rowV 3 e' rfl⟩)) (fun xs gs hx => by first | omega | with_reducible assumption | (simp only [zb, zu, zw, zi, za]; omega) | (simp only [zs, zr, zm, za, zb, zu, zw, zi, zt, zd, zc, zn, *] <;> first | done | omega) | rfl) (fun xs gs hx => by first | (with_reducible first | exact bys_one _ | exact u32s_one _ | exact u64s_one _ | exact i64s_one _ | exact n64s_one _ | assumption) | exact bys_one _ | exact u32s_one _ | exact u64s_one _ | exact i64s_one _ | exact one_all rfl | (refine app_one ?_ ?_ <;> first | exact bys_one _ | (simp; done))) (by first | omega | with_reducible assumption | (simp only [zb, zu, zw, zi, za]; omega) | (simp only [zs, zr, zm, za, zb, zu, zw, zi, zt, zd, zc, zn, *] <;> first | done | omega) | rfl) (by first | omega | with_reducible assumption | (simp only [zb, zu, zw, zi, za]; omega) | (simp only [zs, zr, zm, za, zb, zu, zw, zi, zt, zd, zc, zn, *] <;> first | done | omega) | rfl) ?_
    refine qp_v (f := fun _ _ => .agg (bys mc).toArray) (fun xs gs hx => ?_) ?_
    · obtain ⟨A33, c33, e33, hc33, hm33⟩ := hx.2.2.2.2.1 rfl
      first | (exact q_callV Try.func40 rfl rfl rfl (fun w1 H1 => by rw [e33, hmc]; exact rtag_calls k (la ++ p ++ [UInt8.ofNat (j + 1)]) A33 c33 _ (by simp only [List.length_append, List.length_cons, List.length_nil]; omega) hk (by simp <;> omega) w1 (by have := Reads.rowV 4 e33 rfl w1 H1; rw [bys_append, bys_append]; exact this) (by simp <;> omega)))
    refine qp_a (fun xs gs hx => q_alloc zr23 rfl) ?_
    refine qp_end ?_
    intro xs gs hx
    obtain ⟨⟨b25, e25⟩, ⟨A27, c27, e27, hc27, hm27⟩, ⟨A29, c29, e29, hc29, hm29⟩, ⟨b32, e32⟩, ⟨A33, c33, e33, hc33, hm33⟩, ⟨b11, e11⟩, _⟩ := hx
    simp only [selI, ownsA, List.contains_cons, List.contains_nil, Nat.reduceBEq, Nat.reduceAdd, Bool.or_false, Bool.or_true, Bool.false_or, Bool.true_or, mask, nRow, nBlk, nRowT, tupAt_0, tupAt_1, List.append_assoc, List.nil_append, List.append_nil, List.cons_append, List.singleton_append, e25, e27, e29, e32, e33, e11]
    refine VL.keep (Sub.cons (s := 1) rfl (Sub.cons (s := 2) rfl (Sub.cons (s := 3) rfl (Sub.cons (s := 8) rfl (Sub.cons (s := 9) rfl (Sub.cons (s := 10) rfl (Sub.cons (s := 21) rfl (Sub.cons (s := 34) rfl (Sub.cons (s := 11) rfl (Sub.nil _)))))))))) ?_
    refine l_storeA 5 rfl rfl rfl sz23 (by first | omega | with_reducible assumption | (simp only [zb, zu, zw, zi, za]; omega) | (simp only [zs, zr, zm, za, zb, zu, zw, zi, zt, zd, zc, zn, *] <;> first | done | omega) | rfl) (by first | (with_reducible first | exact bys_one _ | exact u32s_one _ | exact u64s_one _ | exact i64s_one _ | exact n64s_one _ | assumption) | exact bys_one _ | exact u32s_one _ | exact u64s_one _ | exact i64s_one _ | exact one_all rfl | (refine app_one ?_ ?_ <;> first | exact bys_one _ | (simp; done))) (by first | omega | with_reducible assumption | (simp only [zb, zu, zw, zi, za]; omega) | (simp only [zs, zr, zm, za, zb, zu, zw, zi, zt, zd, zc, zn, *] <;> first | done | omega) | rfl) ?_
    simp only [List.set_cons_zero, List.set_cons_succ]
    refine vl_nil ?_
    refine (qn_n (th_n ?_))
    refine VC_seq ?_
    refine VC_region ?_
    refine l_litA (cs := bys []) Try.underlying24 in5 (by decide) rfl rfl rfl rfl (by first | (with_reducible first | exact bys_one _ | exact u32s_one _ | exact u64s_one _ | exact i64s_one _ | exact n64s_one _ | assumption) | exact bys_one _ | exact u32s_one _ | exact u64s_one _ | exact i64s_one _ | exact one_all rfl | (refine app_one ?_ ?_ <;> first | exact bys_one _ | (simp; done))) rfl rfl ?_
    intro b35
    refine vl_v (q_slcA Try.underlying23 sz5 rfl rfl rfl rfl (.inl rfl) (by omega) (by omega) (by omega) (by omega) (by (try simp only [Nat.mul_one, Nat.zero_add, Nat.zero_mul, Nat.mul_zero, Nat.add_zero]) <;> rfl)) rfl ?_
    refine l_append 0 rfl rfl rfl Try.underlying24 Try.underlying24 in5 rfl (by decide) (Reads.blk 6 rfl) (by first | omega | with_reducible assumption | (simp only [zb, zu, zw, zi, za]; omega) | (simp only [zs, zr, zm, za, zb, zu, zw, zi, zt, zd, zc, zn, *] <;> first | done | omega) | rfl) (by first | (with_reducible first | exact bys_one _ | exact u32s_one _ | exact u64s_one _ | exact i64s_one _ | exact n64s_one _ | assumption) | exact bys_one _ | exact u32s_one _ | exact u64s_one _ | exact i64s_one _ | exact one_all rfl | (refine app_one ?_ ?_ <;> first | exact bys_one _ | (simp; done))) (by first | omega | with_reducible assumption | (simp only [zb, zu, zw, zi, za]; omega) | (simp only [zs, zr, zm, za, zb, zu, zw, zi, zt, zd, zc, zn, *] <;> first | done | omega) | rfl) (by first | omega | with_reducible assumption | (simp only [zb, zu, zw, zi, za]; omega) | (simp only [zs, zr, zm, za, zb, zu, zw, zi, zt, zd, zc, zn, *] <;> first | done | omega) | rfl) rfl ?_
    intro A37 c37 hc37
    simp only [List.set_cons_zero, List.set_cons_succ, ← bys_append, ← u32s_append, ← u64s_append, ← i64s_append, List.nil_append, Nat.zero_add]
    refine vl_v (q_assign rfl) rfl ?_
    refine vl_nil ?_
    refine (th_n ?_)
    refine VC_region ?_
    refine vl_v (q_move rfl) rfl ?_
    refine vl_v (q_move rfl) rfl ?_
    refine l_append 2 rfl rfl rfl Try.underlying24 Try.underlying24 in5 rfl (by decide) (Reads.row 0 rfl) (by first | omega | with_reducible assumption | (simp only [zb, zu, zw, zi, za]; omega) | (simp only [zs, zr, zm, za, zb, zu, zw, zi, zt, zd, zc, zn, *] <;> first | done | omega) | rfl) (by first | (with_reducible first | exact bys_one _ | exact u32s_one _ | exact u64s_one _ | exact i64s_one _ | exact n64s_one _ | assumption) | exact bys_one _ | exact u32s_one _ | exact u64s_one _ | exact i64s_one _ | exact one_all rfl | (refine app_one ?_ ?_ <;> first | exact bys_one _ | (simp; done))) (by first | omega | with_reducible assumption | (simp only [zb, zu, zw, zi, za]; omega) | (simp only [zs, zr, zm, za, zb, zu, zw, zi, zt, zd, zc, zn, *] <;> first | done | omega) | rfl) (by first | omega | with_reducible assumption | (simp only [zb, zu, zw, zi, za]; omega) | (simp only [zs, zr, zm, za, zb, zu, zw, zi, zt, zd, zc, zn, *] <;> first | done | omega) | rfl) rfl ?_
    intro A40 c40 hc40
    simp only [List.set_cons_zero, List.set_cons_succ, ← bys_append, ← u32s_append, ← u64s_append, ← i64s_append, List.nil_append, Nat.zero_add]
    refine vl_v (q_assign rfl) rfl ?_
    refine vl_nil ?_
    refine (bl_n (th_n ?_))
    refine VC_region ?_
    refine vl_v (q_move rfl) rfl ?_
    first | (refine vl_v (q_add_n (q := 1) rfl rfl (by omega)) rfl ?_) | (refine vl_v (q_add_i rfl rfl (by omega) (by omega)) rfl ?_)
    refine vl_v (q_assign rfl) rfl ?_
    refine vl_nil ?_
    refine (th_n ?_)
    refine ⟨(j + 1, A37, A40, c40, c37), ⟨by show 32 * (j + 1) < m + 32; omega, by show 32 * (j + 1) ≤ c40; omega, by show (sprLast k p (j + 1)).length ≤ c37; rw [hnx, hml]; omega⟩, by show m + 32 - 32 * (j + 1) < m + 32 - 32 * j; omega, (Sub.cons (s := 1) rfl (Sub.cons (s := 2) rfl (Sub.cons (s := 3) rfl (Sub.cons (s := 8) rfl (Sub.cons (s := 9) (by show _ = some (Value.slice _ (sprLast k p (j + 1)).length _); rw [hnx]; rw [hml]; rfl) (Sub.cons (s := 10) rfl (Sub.nil _))))))), fun w' H => by show St [] w [.row 5 1 (.slice A37 (sprLast k p (j + 1)).length c37) (sprLast k p (j + 1)).length (bys (sprLast k p (j + 1))), .row 5 1 (.slice A40 (32 * (j + 1)) c40) (32 * (j + 1)) (bys (sprOut k p j ++ sprLast k p (j + 1))), .blk b3 23 (bys k)] w'; rw [hnx, hml]; exact H.pick (ks := [0, 2, 3]) (by decide) rfl⟩
  · skip
    have ht21 := of_decide_eq_false ht21
    simp only at ht21
    obtain rfl : j = (m + 31) / 32 := by omega
    dsimp only
    refine VC_exit ?_
    refine (th_x (th_x (bl_xs (th_n ?_))))
    refine VC_seq ?_
    refine VC_region ?_
    refine vl_v (q_move rfl) rfl ?_
    refine vl_v (q_move rfl) rfl ?_
    refine vl_v (q_slcS0 Try.underlying24 sz5 rfl ⟨_, rfl⟩ rfl (.inl rfl) (by omega) (by omega)) rfl ?_
    refine vl_v (q_assign rfl) rfl ?_
    refine vl_v (q_assign rfl) rfl ?_
    refine vl_nil ?_
    refine (th_n ?_)
    refine VC_ret ?_
    refine ⟨_, res2 rfl rfl rfl, ?_⟩
    exact ⟨A8, c8, _, rfl, by omega, fun w' H' => St.pick H' (ks := [1]) (by decide) rfl⟩

set_option maxHeartbeats 2000000 in
theorem rspread_low (k p : List UInt8) (m : Int) (hm : m < 0) (w : World) :
    Calls Try.prog 19 #[.agg (bys k).toArray, .string ⟨p.toArray⟩, vI m] w fun e w' => e = .returned (.tuple #[.slice none 0 0, .int .i64 1]) ∧ Kept [] w w' := by
  refine enter (n := 44) (R := fun e L => e = .returned (.tuple #[.slice none 0 0, .int .i64 1])) [.agg (bys k).toArray, .string ⟨p.toArray⟩, vI m] Try.func19 rfl rfl rfl (St.refl w) ?_ (fun e w' L' h H => ⟨h, H.kept⟩)
  refine VC_seq ?_
  refine VC_region ?_
  refine l_boxA rfl rfl ?_
  intro b3
  refine vl_v (q_assign rfl) rfl ?_
  refine vl_v (q_assign rfl) rfl ?_
  refine vl_nil ?_
  refine (th_n ?_)
  refine VC_seq ?_
  refine VC_seq ?_
  refine VC_region ?_
  refine vl_v (q_move rfl) rfl ?_
  refine vl_v (q_as (v := .bool true) (q_lss_k Try.underlying3 rfl rfl) (by simp; omega)) rfl ?_
  refine vl_v (q_move rfl) rfl ?_
  refine vl_skip rfl rfl ?_
  refine vl_skip rfl rfl ?_
  first | (refine vl_v (q_pickT rfl rfl) rfl ?_) | (refine vl_v (q_pickF rfl rfl) rfl ?_)
  refine vl_nil ?_
  refine (th_n ?_)
  refine VC_yes (rfl) ?_
  refine VC_seq ?_
  refine VC_region ?_
  refine vl_v (q_assign rfl) rfl ?_
  refine vl_v (q_assign rfl) rfl ?_
  refine vl_nil ?_
  refine (th_n ?_)
  refine VC_ret ?_
  refine (th_r ?_)
  refine ⟨_, res2 rfl rfl rfl, ?_⟩
  exact rfl
set_option maxHeartbeats 2000000 in
theorem rspread_high (k p : List UInt8) (m : Int) (hm : 2000 < m) (w : World) :
    Calls Try.prog 19 #[.agg (bys k).toArray, .string ⟨p.toArray⟩, vI m] w fun e w' => e = .returned (.tuple #[.slice none 0 0, .int .i64 1]) ∧ Kept [] w w' := by
  refine enter (n := 44) (R := fun e L => e = .returned (.tuple #[.slice none 0 0, .int .i64 1])) [.agg (bys k).toArray, .string ⟨p.toArray⟩, vI m] Try.func19 rfl rfl rfl (St.refl w) ?_ (fun e w' L' h H => ⟨h, H.kept⟩)
  refine VC_seq ?_
  refine VC_region ?_
  refine l_boxA rfl rfl ?_
  intro b3
  refine vl_v (q_assign rfl) rfl ?_
  refine vl_v (q_assign rfl) rfl ?_
  refine vl_nil ?_
  refine (th_n ?_)
  refine VC_seq ?_
  refine VC_seq ?_
  refine VC_region ?_
  refine vl_v (q_move rfl) rfl ?_
  refine vl_v (q_as (v := .bool false) (q_lss_k Try.underlying3 rfl rfl) (by simp; omega)) rfl ?_
  refine vl_v (q_move rfl) rfl ?_
  refine vl_vg rfl (q_move rfl) rfl ?_
  refine vl_vg rfl (q_as (v := .bool true) (q_gtr_k Try.underlying3 rfl rfl) (by simp; omega)) rfl ?_
  first | (refine vl_v (q_pickT rfl rfl) rfl ?_) | (refine vl_v (q_pickF rfl rfl) rfl ?_)
  refine vl_nil ?_
  refine (th_n ?_)
  refine VC_yes (rfl) ?_
  refine VC_seq ?_
  refine VC_region ?_
  refine vl_v (q_assign rfl) rfl ?_
  refine vl_v (q_assign rfl) rfl ?_
  refine vl_nil ?_
  refine (th_n ?_)
  refine VC_ret ?_
  refine (th_r ?_)
  refine ⟨_, res2 rfl rfl rfl, ?_⟩
  exact rfl
theorem rspread_bad (k p : List UInt8) (m : Int) (hm : ¬ (0 ≤ m ∧ m ≤ 2000)) (w : World) :
    Calls Try.prog 19 #[.agg (bys k).toArray, .string ⟨p.toArray⟩, vI m] w fun e w' => e = .returned (.tuple #[.slice none 0 0, .int .i64 1]) ∧ Kept [] w w' := by
  by_cases h : m < 0
  · exact rspread_low k p m h w
  · exact rspread_high k p m (by omega) w
end Go.Proofs.Ytkadnmoephkklaa
