/- Any bytes, opened: the statement SealOpens. No condition. -/
import Derived.Test.YtkadnmoephkklaaRows
import Derived.Test.YtkadnmoephkklaaA05
namespace Go.Proofs.Ytkadnmoephkklaa
open Go.RowKit Go.PBYtkadnmoephkklaa
set_option linter.unusedVariables false
set_option linter.unusedSimpArgs false
set_option maxRecDepth 10000

set_option maxHeartbeats 2000000 in
theorem opens_ok (k b c : List UInt8) (B C : Option Addr) (cb cc : Nat) (n : Nat) (hn : c.length = n + 32) (hmt : markW k b (c.take n) = c.drop n) (hk : k.length = 32) (hb : b.length ≤ 500) (hc : c.length ≤ 500) (hcb : b.length ≤ cb) (hcc : c.length ≤ cc) (w : World) (hB : SlAt w B (bys b)) (hC : SlAt w C (bys c)) :
    Calls Try.prog 15 #[.agg (bys k).toArray, .slice B b.length cb, .slice C c.length cc] w fun e w' => e = .returned (.bool true) ∧ Kept [] w w' := by
  have l1 : (c.take n).length = n := by rw [List.length_take]; omega
  have l2 := turnW_length k (c.take n)
  obtain ⟨u, hu⟩ : ∃ u, turnW k (c.take n) = u := ⟨_, rfl⟩
  rw [hu, l1] at l2
  obtain ⟨t, ht⟩ : ∃ t, c.drop n = t := ⟨_, rfl⟩
  have lt : t.length = 32 := by rw [← ht, List.length_drop]; omega
  refine enter (n := 79) (R := fun e L => e = .returned (.bool true)) [.agg (bys k).toArray, .slice B b.length cb, .slice C c.length cc] Try.func15 rfl rfl rfl (St.refl w) ?_ (fun e w' L' h H => ⟨h, H.kept⟩)
  refine VC_seq ?_
  refine VC_region ?_
  refine l_boxA rfl rfl ?_
  intro b3
  refine vl_v (q_assign rfl) rfl ?_
  refine vl_nil ?_
  refine (th_n ?_)
  refine VC_seq ?_
  refine VC_region ?_
  refine vl_v (q_callV Try.func33 rfl rfl rfl (fun w1 H1 => awake5_calls w1)) rfl ?_
  refine vl_v (q_assign rfl) rfl ?_
  refine vl_nil ?_
  refine (th_n ?_)
  refine VC_seq ?_
  refine VC_seq ?_
  refine VC_region ?_
  refine vl_v (q_move rfl) rfl ?_
  refine vl_v (q_lenS Try.underlying24 rfl) rfl ?_
  refine vl_v (q_false (q_gtr_n (q := 500) Try.underlying3 rfl rfl) (by simp; omega)) rfl ?_
  refine vl_v (q_move rfl) rfl ?_
  refine vl_vg rfl (q_move rfl) rfl ?_
  refine vl_vg rfl (q_lenS Try.underlying24 rfl) rfl ?_
  refine vl_vg rfl (q_false (q_gtr_n (q := 500) Try.underlying3 rfl rfl) (by simp; omega)) rfl ?_
  first | (refine vl_v (q_pickT rfl rfl) rfl ?_) | (refine vl_v (q_pickF rfl rfl) rfl ?_)
  refine vl_nil ?_
  refine (th_n ?_)
  refine VC_no (rfl) ?_
  refine VC_skip ?_
  refine (th_n ?_)
  refine VC_seq ?_
  refine VC_region ?_
  first | (refine vl_v (q_loads 0 Try.underlying23 rfl rfl rfl sz23 (by first | omega | with_reducible assumption | (simp only [zb, zu, zw, zi, za]; omega) | (simp only [zs, zr, zm, za, zb, zu, zw, zi, zt, zd, zc, zn, *] <;> first | done | omega) | rfl)) rfl ?_) | (refine vl_v (q_loadsAt 0 Try.underlying23 rfl rfl rfl sz23 (by rfl) (by first | omega | with_reducible assumption | (simp only [zb, zu, zw, zi, za]; omega) | (simp only [zs, zr, zm, za, zb, zu, zw, zi, zt, zd, zc, zn, *] <;> first | done | omega) | rfl)) rfl ?_)
  refine vl_v (q_move rfl) rfl ?_
  refine vl_v (q_move rfl) rfl ?_
  refine l_callT Try.func35 rfl rfl rfl (fun w1 H1 => open5_ok k b c u n hk B C b.length c.length cb cc hn rfl rfl (by omega) (by omega) hu hmt w1 (Reads.old hB w1 H1) (Reads.old hC w1 H1) hcb hcc) rfl ?_
  intro A28 c28 hc28 hm28
  refine vl_v (q_move rfl) rfl ?_
  refine vl_v (q_ext rfl rfl) rfl ?_
  refine vl_v (q_ext rfl rfl) rfl ?_
  refine vl_v (q_assign rfl) rfl ?_
  refine vl_v (q_assign rfl) rfl ?_
  refine vl_nil ?_
  refine (th_n ?_)
  refine VC_seq ?_
  refine VC_region ?_
  first | (refine vl_v (q_loads 1 Try.underlying23 rfl rfl rfl sz23 (by first | omega | with_reducible assumption | (simp only [zb, zu, zw, zi, za]; omega) | (simp only [zs, zr, zm, za, zb, zu, zw, zi, zt, zd, zc, zn, *] <;> first | done | omega) | rfl)) rfl ?_) | (refine vl_v (q_loadsAt 1 Try.underlying23 rfl rfl rfl sz23 (by rfl) (by first | omega | with_reducible assumption | (simp only [zb, zu, zw, zi, za]; omega) | (simp only [zs, zr, zm, za, zb, zu, zw, zi, zt, zd, zc, zn, *] <;> first | done | omega) | rfl)) rfl ?_)
  refine vl_v (q_move rfl) rfl ?_
  refine vl_v (q_move rfl) rfl ?_
  refine l_callT Try.func38 rfl rfl rfl (fun w1 H1 => ropen5_ok k b c u n hk B C b.length c.length cb cc hn rfl rfl (by omega) (by omega) hu hmt w1 (Reads.old hB w1 H1) (Reads.old hC w1 H1) hcb hcc) rfl ?_
  intro A35 c35 hc35 hm35
  refine vl_v (q_move rfl) rfl ?_
  refine vl_v (q_ext rfl rfl) rfl ?_
  refine vl_v (q_ext rfl rfl) rfl ?_
  refine vl_v (q_assign rfl) rfl ?_
  refine vl_v (q_assign rfl) rfl ?_
  refine vl_nil ?_
  refine (th_n ?_)
  refine VC_seq ?_
  refine VC_region ?_
  refine vl_v (q_move rfl) rfl ?_
  refine vl_v (q_callV Try.func36 rfl rfl rfl (fun w1 H1 => tag5_good c t n c.length cc C hn ht rfl hcc (by omega) w1 (Reads.old hC w1 H1))) rfl ?_
  refine vl_v (q_move rfl) rfl ?_
  refine vl_v (q_ext rfl rfl) rfl ?_
  refine vl_v (q_ext rfl rfl) rfl ?_
  refine l_allocA zr23 rfl ?_
  intro b12
  refine l_storeA 0 rfl rfl rfl sz23 (by first | omega | with_reducible assumption | (simp only [zb, zu, zw, zi, za]; omega) | (simp only [zs, zr, zm, za, zb, zu, zw, zi, zt, zd, zc, zn, *] <;> first | done | omega) | rfl) (by first | (with_reducible first | exact bys_one _ | exact u32s_one _ | exact u64s_one _ | exact i64s_one _ | exact n64s_one _ | assumption) | exact bys_one _ | exact u32s_one _ | exact u64s_one _ | exact i64s_one _ | exact one_all rfl | (refine app_one ?_ ?_ <;> first | exact bys_one _ | (simp; done))) (by first | omega | with_reducible assumption | (simp only [zb, zu, zw, zi, za]; omega) | (simp only [zs, zr, zm, za, zb, zu, zw, zi, zt, zd, zc, zn, *] <;> first | done | omega) | rfl) ?_
  simp only [List.set_cons_zero, List.set_cons_succ]
  refine vl_v (q_assign rfl) rfl ?_
  refine vl_nil ?_
  refine (th_n ?_)
  refine VC_seq ?_
  refine VC_drawV 33 [[], [0], [1], [2, 1], [1], [4, 1], [3, 5, 1], [1, 6], [7, 1], [8], [8], [9, 10, 8], [8, 11], [12, 8], [13], [14, 13], [13], [16, 13], [17, 13], [15, 18, 13], [13, 19], [20, 13], [21], [22, 21], [23, 21], [24], [25, 24], [24], [24], [28, 24], [29, 24], [27, 30, 24], [31, 24], [26, 32, 24], [24, 33, 21], [21, 34], [35, 24, 0, 1, 2, 3, 4, 5, 6, 7, 8, 9, 10, 11, 12, 13, 14, 15, 16, 17, 18, 19, 20, 21, 22, 23, 25, 26, 27, 28, 29, 30, 31, 32, 33, 34]] [[], [0], [0, 1], [0, 1, 2], [0, 1], [0, 1, 4], [0, 1, 2, 3, 4, 5], [0, 1, 2, 3, 4, 5, 6], [0, 1, 2, 3, 4, 5, 6, 7], [0, 1, 2, 3, 4, 5, 6, 7, 8], [0, 1, 2, 3, 4, 5, 6, 7, 8], [0, 1, 2, 3, 4, 5, 6, 7, 8, 9, 10], [0, 1, 2, 3, 4, 5, 6, 7, 8, 9, 10, 11], [0, 1, 2, 3, 4, 5, 6, 7, 8, 9, 10, 11, 12], [0, 1, 2, 3, 4, 5, 6, 7, 8, 9, 10, 11, 12, 13], [0, 1, 2, 3, 4, 5, 6, 7, 8, 9, 10, 11, 12, 13, 14], [0, 1, 2, 3, 4, 5, 6, 7, 8, 9, 10, 11, 12, 13], [0, 1, 2, 3, 4, 5, 6, 7, 8, 9, 10, 11, 12, 13, 16], [0, 1, 2, 3, 4, 5, 6, 7, 8, 9, 10, 11, 12, 13, 16, 17], [0, 1, 2, 3, 4, 5, 6, 7, 8, 9, 10, 11, 12, 13, 14, 15, 16, 17, 18], [0, 1, 2, 3, 4, 5, 6, 7, 8, 9, 10, 11, 12, 13, 14, 15, 16, 17, 18, 19], [0, 1, 2, 3, 4, 5, 6, 7, 8, 9, 10, 11, 12, 13, 14, 15, 16, 17, 18, 19, 20], [0, 1, 2, 3, 4, 5, 6, 7, 8, 9, 10, 11, 12, 13, 14, 15, 16, 17, 18, 19, 20, 21], [0, 1, 2, 3, 4, 5, 6, 7, 8, 9, 10, 11, 12, 13, 14, 15, 16, 17, 18, 19, 20, 21, 22], [0, 1, 2, 3, 4, 5, 6, 7, 8, 9, 10, 11, 12, 13, 14, 15, 16, 17, 18, 19, 20, 21, 22, 23], [0, 1, 2, 3, 4, 5, 6, 7, 8, 9, 10, 11, 12, 13, 14, 15, 16, 17, 18, 19, 20, 21, 22, 23, 24], [0, 1, 2, 3, 4, 5, 6, 7, 8, 9, 10, 11, 12, 13, 14, 15, 16, 17, 18, 19, 20, 21, 22, 23, 24, 25], [0, 1, 2, 3, 4, 5, 6, 7, 8, 9, 10, 11, 12, 13, 14, 15, 16, 17, 18, 19, 20, 21, 22, 23, 24], [0, 1, 2, 3, 4, 5, 6, 7, 8, 9, 10, 11, 12, 13, 14, 15, 16, 17, 18, 19, 20, 21, 22, 23, 24], [0, 1, 2, 3, 4, 5, 6, 7, 8, 9, 10, 11, 12, 13, 14, 15, 16, 17, 18, 19, 20, 21, 22, 23, 24, 28], [0, 1, 2, 3, 4, 5, 6, 7, 8, 9, 10, 11, 12, 13, 14, 15, 16, 17, 18, 19, 20, 21, 22, 23, 24, 28, 29], [0, 1, 2, 3, 4, 5, 6, 7, 8, 9, 10, 11, 12, 13, 14, 15, 16, 17, 18, 19, 20, 21, 22, 23, 24, 27, 28, 29, 30], [0, 1, 2, 3, 4, 5, 6, 7, 8, 9, 10, 11, 12, 13, 14, 15, 16, 17, 18, 19, 20, 21, 22, 23, 24, 27, 28, 29, 30, 31], [0, 1, 2, 3, 4, 5, 6, 7, 8, 9, 10, 11, 12, 13, 14, 15, 16, 17, 18, 19, 20, 21, 22, 23, 24, 25, 26, 27, 28, 29, 30, 31, 32], [0, 1, 2, 3, 4, 5, 6, 7, 8, 9, 10, 11, 12, 13, 14, 15, 16, 17, 18, 19, 20, 21, 22, 23, 24, 25, 26, 27, 28, 29, 30, 31, 32, 33], [0, 1, 2, 3, 4, 5, 6, 7, 8, 9, 10, 11, 12, 13, 14, 15, 16, 17, 18, 19, 20, 21, 22, 23, 24, 25, 26, 27, 28, 29, 30, 31, 32, 33, 34], [0, 1, 2, 3, 4, 5, 6, 7, 8, 9, 10, 11, 12, 13, 14, 15, 16, 17, 18, 19, 20, 21, 22, 23, 24, 25, 26, 27, 28, 29, 30, 31, 32, 33, 34, 35]] rfl (by kernel_rfl) ?_
  refine qv_v (q_move rfl) ?_
  refine qv_v (q_move rfl) ?_
  refine qv_vg (rfl) (q_move rfl) ?_
  refine qv_vg (rfl) (q_str (l := u) Try.underlying24 Try.underlying5 Try.underlying9 rfl (Reads.row 2 rfl) l2.symm) ?_
  refine qv_vg (rfl) (q_move rfl) ?_
  refine qv_vg (rfl) (q_str (l := u) Try.underlying24 Try.underlying5 Try.underlying9 rfl (Reads.row 1 rfl) l2.symm) ?_
  refine qv_vg (rfl) (q_true (q_eqStr Try.underlying9 rfl rfl) (decide_eq_true rfl)) ?_
  first | (refine qv_v (q_pickT rfl rfl) ?_) | (refine qv_v (q_pickF rfl rfl) ?_)
  refine qv_v (q_move rfl) ?_
  refine qv_vg (rfl) (q_move rfl) ?_
  refine qv_vg (rfl) (q_move rfl) ?_
  refine qv_vg (rfl) (q_true (q_eql_n (q := 0) Try.underlying26 rfl rfl) (decide_eq_true rfl)) ?_
  first | (refine qv_v (q_pickT rfl rfl) ?_) | (refine qv_v (q_pickF rfl rfl) ?_)
  refine qv_v (q_move rfl) ?_
  refine qv_vg (rfl) (q_move rfl) ?_
  refine qv_vg (rfl) (q_false (q_eql_n (p := 0) (q := 3) Try.underlying26 rfl rfl) rfl) ?_
  refine qv_vg (rfl) (q_move rfl) ?_
  refine qv_vg (rfl) (q_lenS Try.underlying24 rfl) ?_
  refine qv_vg (rfl) (q_false (q_lss_n (q := 32) Try.underlying3 rfl rfl) (by simp; omega)) ?_
  refine qv_vg (rfl) (q_true (q_eqBo Try.underlying4 rfl rfl) rfl) ?_
  first | (refine qv_v (q_pickT rfl rfl) ?_) | (refine qv_v (q_pickF rfl rfl) ?_)
  refine qv_v (q_move rfl) ?_
  refine qv_vg (rfl) (q_move rfl) ?_
  refine qv_vg (rfl) (q_false (q_neq_n (p := 0) (q := 0) Try.underlying26 rfl rfl) rfl) ?_
  refine qv_vg (rfl) (q_move rfl) ?_
  refine qv_vg (rfl) (q_slcA Try.underlying23 sz5 rfl rfl rfl rfl (.inl rfl) (by omega) (by omega) (by omega) (by omega) (by (try simp only [Nat.mul_one, Nat.zero_add, Nat.zero_mul, Nat.mul_zero, Nat.add_zero]) <;> rfl)) ?_
  refine qv_vg (rfl) (q_str (l := t) Try.underlying24 Try.underlying5 Try.underlying9 rfl (Reads.blk 0 rfl) lt.symm) ?_
  refine qv_vg (rfl) (q_move rfl) ?_
  refine qv_vg (rfl) (q_move rfl) ?_
  refine qv_vg (rfl) (q_lenS Try.underlying24 rfl) ?_
  refine qv_vg (rfl) (q_as (v := vN n) (q_sub_n (q := 32) (p := c.length) rfl rfl (by omega) (by omega)) (by rw [hn, Nat.add_sub_cancel])) ?_
  refine qv_vg (rfl) (q_as (v := .slice (PBYtkadnmoephkklaa.adv C n cc 1) 32 (cc - n)) (q_slcS (l := n) (h := c.length) (m := cc) Try.underlying24 sz5 rfl ⟨_, rfl⟩ rfl rfl (.inl rfl) (by omega) (by omega) (by omega)) (by rw [show c.length - n = 32 by omega])) ?_
  refine qv_vg (rfl) (q_str (l := t) Try.underlying24 Try.underlying5 Try.underlying9 rfl (fun w1 H1 => by have h := slRest (Reads.old hC w1 H1) n cc (by omega); rw [ht] at h; exact h) lt.symm) ?_
  refine qv_end ?_
  refine VL.keep (Sub.cons (s := 0) rfl (Sub.cons (s := 1) rfl (Sub.cons (s := 2) rfl (Sub.cons (s := 3) rfl (Sub.cons (s := 6) rfl (Sub.cons (s := 7) rfl (Sub.cons (s := 22) rfl (Sub.cons (s := 8) rfl (Sub.cons (s := 9) rfl (Sub.cons (s := 10) rfl (Sub.cons (s := 11) rfl (Sub.cons (s := 12) rfl (Sub.cons (s := 13) rfl (Sub.cons (s := 64) rfl (Sub.cons (s := 67) rfl (Sub.cons (s := 69) rfl (Sub.cons (s := 75) rfl (Sub.nil _)))))))))))))))))) ?_
  refine vl_vg rfl (q_true (q_eqStr Try.underlying9 rfl rfl) (decide_eq_true rfl)) rfl ?_
  first | (refine vl_vg rfl (q_pickT rfl rfl) rfl ?_) | (refine vl_vg rfl (q_pickF rfl rfl) rfl ?_)
  first | (refine vl_v (q_pickT rfl rfl) rfl ?_) | (refine vl_v (q_pickF rfl rfl) rfl ?_)
  refine vl_v (q_assign rfl) rfl ?_
  refine vl_nil ?_
  refine (qn_n (th_n ?_))
  refine VC_ret ?_
  refine ⟨_, res1 rfl rfl, ?_⟩
  exact rfl
set_option maxHeartbeats 2000000 in
theorem opens_no (k b c : List UInt8) (B C : Option Addr) (cb cc : Nat) (n : Nat) (hn : c.length = n + 32) (hmt : ¬ markW k b (c.take n) = c.drop n) (hk : k.length = 32) (hb : b.length ≤ 500) (hc : c.length ≤ 500) (hcb : b.length ≤ cb) (hcc : c.length ≤ cc) (w : World) (hB : SlAt w B (bys b)) (hC : SlAt w C (bys c)) :
    Calls Try.prog 15 #[.agg (bys k).toArray, .slice B b.length cb, .slice C c.length cc] w fun e w' => e = .returned (.bool true) ∧ Kept [] w w' := by
  have l1 : (c.take n).length = n := by rw [List.length_take]; omega
  have l2 := turnW_length k (c.take n)
  obtain ⟨u, hu⟩ : ∃ u, turnW k (c.take n) = u := ⟨_, rfl⟩
  rw [hu, l1] at l2
  obtain ⟨t, ht⟩ : ∃ t, c.drop n = t := ⟨_, rfl⟩
  have lt : t.length = 32 := by rw [← ht, List.length_drop]; omega
  refine enter (n := 79) (R := fun e L => e = .returned (.bool true)) [.agg (bys k).toArray, .slice B b.length cb, .slice C c.length cc] Try.func15 rfl rfl rfl (St.refl w) ?_ (fun e w' L' h H => ⟨h, H.kept⟩)
  refine VC_seq ?_
  refine VC_region ?_
  refine l_boxA rfl rfl ?_
  intro b3
  refine vl_v (q_assign rfl) rfl ?_
  refine vl_nil ?_
  refine (th_n ?_)
  refine VC_seq ?_
  refine VC_region ?_
  refine vl_v (q_callV Try.func33 rfl rfl rfl (fun w1 H1 => awake5_calls w1)) rfl ?_
  refine vl_v (q_assign rfl) rfl ?_
  refine vl_nil ?_
  refine (th_n ?_)
  refine VC_seq ?_
  refine VC_seq ?_
  refine VC_region ?_
  refine vl_v (q_move rfl) rfl ?_
  refine vl_v (q_lenS Try.underlying24 rfl) rfl ?_
  refine vl_v (q_false (q_gtr_n (q := 500) Try.underlying3 rfl rfl) (by simp; omega)) rfl ?_
  refine vl_v (q_move rfl) rfl ?_
  refine vl_vg rfl (q_move rfl) rfl ?_
  refine vl_vg rfl (q_lenS Try.underlying24 rfl) rfl ?_
  refine vl_vg rfl (q_false (q_gtr_n (q := 500) Try.underlying3 rfl rfl) (by simp; omega)) rfl ?_
  first | (refine vl_v (q_pickT rfl rfl) rfl ?_) | (refine vl_v (q_pickF rfl rfl) rfl ?_)
  refine vl_nil ?_
  refine (th_n ?_)
  refine VC_no (rfl) ?_
  refine VC_skip ?_
  refine (th_n ?_)
  refine VC_seq ?_
  refine VC_region ?_
  first | (refine vl_v (q_loads 0 Try.underlying23 rfl rfl rfl sz23 (by first | omega | with_reducible assumption | (simp only [zb, zu, zw, zi, za]; omega) | (simp only [zs, zr, zm, za, zb, zu, zw, zi, zt, zd, zc, zn, *] <;> first | done | omega) | rfl)) rfl ?_) | (refine vl_v (q_loadsAt 0 Try.underlying23 rfl rfl rfl sz23 (by rfl) (by first | omega | with_reducible assumption | (simp only [zb, zu, zw, zi, za]; omega) | (simp only [zs, zr, zm, za, zb, zu, zw, zi, zt, zd, zc, zn, *] <;> first | done | omega) | rfl)) rfl ?_)
  refine vl_v (q_move rfl) rfl ?_
  refine vl_v (q_move rfl) rfl ?_
  refine vl_v (q_callV Try.func35 rfl rfl rfl (fun w1 H1 => open5_no k b c n hk B C b.length c.length cb cc hn rfl rfl (by omega) (by omega) hmt w1 (Reads.old hB w1 H1) (Reads.old hC w1 H1) hcb hcc)) rfl ?_
  refine vl_v (q_move rfl) rfl ?_
  refine vl_v (q_ext rfl rfl) rfl ?_
  refine vl_v (q_ext rfl rfl) rfl ?_
  refine vl_v (q_assign rfl) rfl ?_
  refine vl_v (q_assign rfl) rfl ?_
  refine vl_nil ?_
  refine (th_n ?_)
  refine VC_seq ?_
  refine VC_region ?_
  first | (refine vl_v (q_loads 0 Try.underlying23 rfl rfl rfl sz23 (by first | omega | with_reducible assumption | (simp only [zb, zu, zw, zi, za]; omega) | (simp only [zs, zr, zm, za, zb, zu, zw, zi, zt, zd, zc, zn, *] <;> first | done | omega) | rfl)) rfl ?_) | (refine vl_v (q_loadsAt 0 Try.underlying23 rfl rfl rfl sz23 (by rfl) (by first | omega | with_reducible assumption | (simp only [zb, zu, zw, zi, za]; omega) | (simp only [zs, zr, zm, za, zb, zu, zw, zi, zt, zd, zc, zn, *] <;> first | done | omega) | rfl)) rfl ?_)
  refine vl_v (q_move rfl) rfl ?_
  refine vl_v (q_move rfl) rfl ?_
  refine vl_v (q_callV Try.func38 rfl rfl rfl (fun w1 H1 => ropen5_no k b c n hk B C b.length c.length cb cc hn rfl rfl (by omega) (by omega) hmt w1 (Reads.old hB w1 H1) (Reads.old hC w1 H1) hcb hcc)) rfl ?_
  refine vl_v (q_move rfl) rfl ?_
  refine vl_v (q_ext rfl rfl) rfl ?_
  refine vl_v (q_ext rfl rfl) rfl ?_
  refine vl_v (q_assign rfl) rfl ?_
  refine vl_v (q_assign rfl) rfl ?_
  refine vl_nil ?_
  refine (th_n ?_)
  refine VC_seq ?_
  refine VC_region ?_
  refine vl_v (q_move rfl) rfl ?_
  refine vl_v (q_callV Try.func36 rfl rfl rfl (fun w1 H1 => tag5_good c t n c.length cc C hn ht rfl hcc (by omega) w1 (Reads.old hC w1 H1))) rfl ?_
  refine vl_v (q_move rfl) rfl ?_
  refine vl_v (q_ext rfl rfl) rfl ?_
  refine vl_v (q_ext rfl rfl) rfl ?_
  refine l_allocA zr23 rfl ?_
  intro b12
  refine l_storeA 0 rfl rfl rfl sz23 (by first | omega | with_reducible assumption | (simp only [zb, zu, zw, zi, za]; omega) | (simp only [zs, zr, zm, za, zb, zu, zw, zi, zt, zd, zc, zn, *] <;> first | done | omega) | rfl) (by first | (with_reducible first | exact bys_one _ | exact u32s_one _ | exact u64s_one _ | exact i64s_one _ | exact n64s_one _ | assumption) | exact bys_one _ | exact u32s_one _ | exact u64s_one _ | exact i64s_one _ | exact one_all rfl | (refine app_one ?_ ?_ <;> first | exact bys_one _ | (simp; done))) (by first | omega | with_reducible assumption | (simp only [zb, zu, zw, zi, za]; omega) | (simp only [zs, zr, zm, za, zb, zu, zw, zi, zt, zd, zc, zn, *] <;> first | done | omega) | rfl) ?_
  simp only [List.set_cons_zero, List.set_cons_succ]
  refine vl_v (q_assign rfl) rfl ?_
  refine vl_nil ?_
  refine (th_n ?_)
  refine VC_seq ?_
  refine VC_drawV 33 [[], [0], [1], [2, 1], [1], [4, 1], [3, 5, 1], [1, 6], [7, 1], [8], [8], [9, 10, 8], [8, 11], [12, 8], [13], [14, 13], [13], [16, 13], [17, 13], [15, 18, 13], [13, 19], [20, 13], [21], [22, 21], [23, 21], [24], [25, 24], [24], [24], [28, 24], [29, 24], [27, 30, 24], [31, 24], [26, 32, 24], [24, 33, 21], [21, 34], [35, 24, 0, 1, 2, 3, 4, 5, 6, 7, 8, 9, 10, 11, 12, 13, 14, 15, 16, 17, 18, 19, 20, 21, 22, 23, 25, 26, 27, 28, 29, 30, 31, 32, 33, 34]] [[], [0], [0, 1], [0, 1, 2], [0, 1], [0, 1, 4], [0, 1, 2, 3, 4, 5], [0, 1, 2, 3, 4, 5, 6], [0, 1, 2, 3, 4, 5, 6, 7], [0, 1, 2, 3, 4, 5, 6, 7, 8], [0, 1, 2, 3, 4, 5, 6, 7, 8], [0, 1, 2, 3, 4, 5, 6, 7, 8, 9, 10], [0, 1, 2, 3, 4, 5, 6, 7, 8, 9, 10, 11], [0, 1, 2, 3, 4, 5, 6, 7, 8, 9, 10, 11, 12], [0, 1, 2, 3, 4, 5, 6, 7, 8, 9, 10, 11, 12, 13], [0, 1, 2, 3, 4, 5, 6, 7, 8, 9, 10, 11, 12, 13, 14], [0, 1, 2, 3, 4, 5, 6, 7, 8, 9, 10, 11, 12, 13], [0, 1, 2, 3, 4, 5, 6, 7, 8, 9, 10, 11, 12, 13, 16], [0, 1, 2, 3, 4, 5, 6, 7, 8, 9, 10, 11, 12, 13, 16, 17], [0, 1, 2, 3, 4, 5, 6, 7, 8, 9, 10, 11, 12, 13, 14, 15, 16, 17, 18], [0, 1, 2, 3, 4, 5, 6, 7, 8, 9, 10, 11, 12, 13, 14, 15, 16, 17, 18, 19], [0, 1, 2, 3, 4, 5, 6, 7, 8, 9, 10, 11, 12, 13, 14, 15, 16, 17, 18, 19, 20], [0, 1, 2, 3, 4, 5, 6, 7, 8, 9, 10, 11, 12, 13, 14, 15, 16, 17, 18, 19, 20, 21], [0, 1, 2, 3, 4, 5, 6, 7, 8, 9, 10, 11, 12, 13, 14, 15, 16, 17, 18, 19, 20, 21, 22], [0, 1, 2, 3, 4, 5, 6, 7, 8, 9, 10, 11, 12, 13, 14, 15, 16, 17, 18, 19, 20, 21, 22, 23], [0, 1, 2, 3, 4, 5, 6, 7, 8, 9, 10, 11, 12, 13, 14, 15, 16, 17, 18, 19, 20, 21, 22, 23, 24], [0, 1, 2, 3, 4, 5, 6, 7, 8, 9, 10, 11, 12, 13, 14, 15, 16, 17, 18, 19, 20, 21, 22, 23, 24, 25], [0, 1, 2, 3, 4, 5, 6, 7, 8, 9, 10, 11, 12, 13, 14, 15, 16, 17, 18, 19, 20, 21, 22, 23, 24], [0, 1, 2, 3, 4, 5, 6, 7, 8, 9, 10, 11, 12, 13, 14, 15, 16, 17, 18, 19, 20, 21, 22, 23, 24], [0, 1, 2, 3, 4, 5, 6, 7, 8, 9, 10, 11, 12, 13, 14, 15, 16, 17, 18, 19, 20, 21, 22, 23, 24, 28], [0, 1, 2, 3, 4, 5, 6, 7, 8, 9, 10, 11, 12, 13, 14, 15, 16, 17, 18, 19, 20, 21, 22, 23, 24, 28, 29], [0, 1, 2, 3, 4, 5, 6, 7, 8, 9, 10, 11, 12, 13, 14, 15, 16, 17, 18, 19, 20, 21, 22, 23, 24, 27, 28, 29, 30], [0, 1, 2, 3, 4, 5, 6, 7, 8, 9, 10, 11, 12, 13, 14, 15, 16, 17, 18, 19, 20, 21, 22, 23, 24, 27, 28, 29, 30, 31], [0, 1, 2, 3, 4, 5, 6, 7, 8, 9, 10, 11, 12, 13, 14, 15, 16, 17, 18, 19, 20, 21, 22, 23, 24, 25, 26, 27, 28, 29, 30, 31, 32], [0, 1, 2, 3, 4, 5, 6, 7, 8, 9, 10, 11, 12, 13, 14, 15, 16, 17, 18, 19, 20, 21, 22, 23, 24, 25, 26, 27, 28, 29, 30, 31, 32, 33], [0, 1, 2, 3, 4, 5, 6, 7, 8, 9, 10, 11, 12, 13, 14, 15, 16, 17, 18, 19, 20, 21, 22, 23, 24, 25, 26, 27, 28, 29, 30, 31, 32, 33, 34], [0, 1, 2, 3, 4, 5, 6, 7, 8, 9, 10, 11, 12, 13, 14, 15, 16, 17, 18, 19, 20, 21, 22, 23, 24, 25, 26, 27, 28, 29, 30, 31, 32, 33, 34, 35]] rfl (by kernel_rfl) ?_
  refine qv_v (q_move rfl) ?_
  refine qv_v (q_move rfl) ?_
  refine qv_vg (rfl) (q_move rfl) ?_
  refine qv_vg (rfl) (q_str (l := []) Try.underlying24 Try.underlying5 Try.underlying9 rfl (fun w1 H1 => SlAt.nil _ _) rfl) ?_
  refine qv_vg (rfl) (q_move rfl) ?_
  refine qv_vg (rfl) (q_str (l := []) Try.underlying24 Try.underlying5 Try.underlying9 rfl (fun w1 H1 => SlAt.nil _ _) rfl) ?_
  refine qv_vg (rfl) (q_true (q_eqStr Try.underlying9 rfl rfl) (decide_eq_true rfl)) ?_
  first | (refine qv_v (q_pickT rfl rfl) ?_) | (refine qv_v (q_pickF rfl rfl) ?_)
  refine qv_v (q_move rfl) ?_
  refine qv_vg (rfl) (q_move rfl) ?_
  refine qv_vg (rfl) (q_move rfl) ?_
  refine qv_vg (rfl) (q_true (q_eql_n (q := 4) Try.underlying26 rfl rfl) (decide_eq_true rfl)) ?_
  first | (refine qv_v (q_pickT rfl rfl) ?_) | (refine qv_v (q_pickF rfl rfl) ?_)
  refine qv_v (q_move rfl) ?_
  refine qv_vg (rfl) (q_move rfl) ?_
  refine qv_vg (rfl) (q_false (q_eql_n (p := 0) (q := 3) Try.underlying26 rfl rfl) rfl) ?_
  refine qv_vg (rfl) (q_move rfl) ?_
  refine qv_vg (rfl) (q_lenS Try.underlying24 rfl) ?_
  refine qv_vg (rfl) (q_false (q_lss_n (q := 32) Try.underlying3 rfl rfl) (by simp; omega)) ?_
  refine qv_vg (rfl) (q_true (q_eqBo Try.underlying4 rfl rfl) rfl) ?_
  first | (refine qv_v (q_pickT rfl rfl) ?_) | (refine qv_v (q_pickF rfl rfl) ?_)
  refine qv_v (q_move rfl) ?_
  refine qv_vg (rfl) (q_move rfl) ?_
  refine qv_vg (rfl) (q_false (q_neq_n (p := 0) (q := 0) Try.underlying26 rfl rfl) rfl) ?_
  refine qv_vg (rfl) (q_move rfl) ?_
  refine qv_vg (rfl) (q_slcA Try.underlying23 sz5 rfl rfl rfl rfl (.inl rfl) (by omega) (by omega) (by omega) (by omega) (by (try simp only [Nat.mul_one, Nat.zero_add, Nat.zero_mul, Nat.mul_zero, Nat.add_zero]) <;> rfl)) ?_
  refine qv_vg (rfl) (q_str (l := t) Try.underlying24 Try.underlying5 Try.underlying9 rfl (Reads.blk 0 rfl) lt.symm) ?_
  refine qv_vg (rfl) (q_move rfl) ?_
  refine qv_vg (rfl) (q_move rfl) ?_
  refine qv_vg (rfl) (q_lenS Try.underlying24 rfl) ?_
  refine qv_vg (rfl) (q_as (v := vN n) (q_sub_n (q := 32) (p := c.length) rfl rfl (by omega) (by omega)) (by rw [hn, Nat.add_sub_cancel])) ?_
  refine qv_vg (rfl) (q_as (v := .slice (PBYtkadnmoephkklaa.adv C n cc 1) 32 (cc - n)) (q_slcS (l := n) (h := c.length) (m := cc) Try.underlying24 sz5 rfl ⟨_, rfl⟩ rfl rfl (.inl rfl) (by omega) (by omega) (by omega)) (by rw [show c.length - n = 32 by omega])) ?_
  refine qv_vg (rfl) (q_str (l := t) Try.underlying24 Try.underlying5 Try.underlying9 rfl (fun w1 H1 => by have h := slRest (Reads.old hC w1 H1) n cc (by omega); rw [ht] at h; exact h) lt.symm) ?_
  refine qv_end ?_
  refine VL.keep (Sub.cons (s := 0) rfl (Sub.cons (s := 1) rfl (Sub.cons (s := 2) rfl (Sub.cons (s := 3) rfl (Sub.cons (s := 6) rfl (Sub.cons (s := 7) rfl (Sub.cons (s := 22) rfl (Sub.cons (s := 8) rfl (Sub.cons (s := 9) rfl (Sub.cons (s := 10) rfl (Sub.cons (s := 11) rfl (Sub.cons (s := 12) rfl (Sub.cons (s := 13) rfl (Sub.cons (s := 64) rfl (Sub.cons (s := 67) rfl (Sub.cons (s := 69) rfl (Sub.cons (s := 75) rfl (Sub.nil _)))))))))))))))))) ?_
  refine vl_vg rfl (q_true (q_eqStr Try.underlying9 rfl rfl) (decide_eq_true rfl)) rfl ?_
  first | (refine vl_vg rfl (q_pickT rfl rfl) rfl ?_) | (refine vl_vg rfl (q_pickF rfl rfl) rfl ?_)
  first | (refine vl_v (q_pickT rfl rfl) rfl ?_) | (refine vl_v (q_pickF rfl rfl) rfl ?_)
  refine vl_v (q_assign rfl) rfl ?_
  refine vl_nil ?_
  refine (qn_n (th_n ?_))
  refine VC_ret ?_
  refine ⟨_, res1 rfl rfl, ?_⟩
  exact rfl
set_option maxHeartbeats 2000000 in
theorem opens_short (k b c : List UInt8) (B C : Option Addr) (cb cc : Nat) (hn : c.length < 32) (hk : k.length = 32) (hb : b.length ≤ 500) (hc : c.length ≤ 500) (hcb : b.length ≤ cb) (hcc : c.length ≤ cc) (w : World) (hB : SlAt w B (bys b)) (hC : SlAt w C (bys c)) :
    Calls Try.prog 15 #[.agg (bys k).toArray, .slice B b.length cb, .slice C c.length cc] w fun e w' => e = .returned (.bool true) ∧ Kept [] w w' := by
  refine enter (n := 79) (R := fun e L => e = .returned (.bool true)) [.agg (bys k).toArray, .slice B b.length cb, .slice C c.length cc] Try.func15 rfl rfl rfl (St.refl w) ?_ (fun e w' L' h H => ⟨h, H.kept⟩)
  refine VC_seq ?_
  refine VC_region ?_
  refine l_boxA rfl rfl ?_
  intro b3
  refine vl_v (q_assign rfl) rfl ?_
  refine vl_nil ?_
  refine (th_n ?_)
  refine VC_seq ?_
  refine VC_region ?_
  refine vl_v (q_callV Try.func33 rfl rfl rfl (fun w1 H1 => awake5_calls w1)) rfl ?_
  refine vl_v (q_assign rfl) rfl ?_
  refine vl_nil ?_
  refine (th_n ?_)
  refine VC_seq ?_
  refine VC_seq ?_
  refine VC_region ?_
  refine vl_v (q_move rfl) rfl ?_
  refine vl_v (q_lenS Try.underlying24 rfl) rfl ?_
  refine vl_v (q_false (q_gtr_n (q := 500) Try.underlying3 rfl rfl) (by simp; omega)) rfl ?_
  refine vl_v (q_move rfl) rfl ?_
  refine vl_vg rfl (q_move rfl) rfl ?_
  refine vl_vg rfl (q_lenS Try.underlying24 rfl) rfl ?_
  refine vl_vg rfl (q_false (q_gtr_n (q := 500) Try.underlying3 rfl rfl) (by simp; omega)) rfl ?_
  first | (refine vl_v (q_pickT rfl rfl) rfl ?_) | (refine vl_v (q_pickF rfl rfl) rfl ?_)
  refine vl_nil ?_
  refine (th_n ?_)
  refine VC_no (rfl) ?_
  refine VC_skip ?_
  refine (th_n ?_)
  refine VC_seq ?_
  refine VC_region ?_
  first | (refine vl_v (q_loads 0 Try.underlying23 rfl rfl rfl sz23 (by first | omega | with_reducible assumption | (simp only [zb, zu, zw, zi, za]; omega) | (simp only [zs, zr, zm, za, zb, zu, zw, zi, zt, zd, zc, zn, *] <;> first | done | omega) | rfl)) rfl ?_) | (refine vl_v (q_loadsAt 0 Try.underlying23 rfl rfl rfl sz23 (by rfl) (by first | omega | with_reducible assumption | (simp only [zb, zu, zw, zi, za]; omega) | (simp only [zs, zr, zm, za, zb, zu, zw, zi, zt, zd, zc, zn, *] <;> first | done | omega) | rfl)) rfl ?_)
  refine vl_v (q_move rfl) rfl ?_
  refine vl_v (q_move rfl) rfl ?_
  refine vl_v (q_callV Try.func35 rfl rfl rfl (fun w1 H1 => open5_short k b.length cb c.length cc B C hk hn w1)) rfl ?_
  refine vl_v (q_move rfl) rfl ?_
  refine vl_v (q_ext rfl rfl) rfl ?_
  refine vl_v (q_ext rfl rfl) rfl ?_
  refine vl_v (q_assign rfl) rfl ?_
  refine vl_v (q_assign rfl) rfl ?_
  refine vl_nil ?_
  refine (th_n ?_)
  refine VC_seq ?_
  refine VC_region ?_
  first | (refine vl_v (q_loads 0 Try.underlying23 rfl rfl rfl sz23 (by first | omega | with_reducible assumption | (simp only [zb, zu, zw, zi, za]; omega) | (simp only [zs, zr, zm, za, zb, zu, zw, zi, zt, zd, zc, zn, *] <;> first | done | omega) | rfl)) rfl ?_) | (refine vl_v (q_loadsAt 0 Try.underlying23 rfl rfl rfl sz23 (by rfl) (by first | omega | with_reducible assumption | (simp only [zb, zu, zw, zi, za]; omega) | (simp only [zs, zr, zm, za, zb, zu, zw, zi, zt, zd, zc, zn, *] <;> first | done | omega) | rfl)) rfl ?_)
  refine vl_v (q_move rfl) rfl ?_
  refine vl_v (q_move rfl) rfl ?_
  refine vl_v (q_callV Try.func38 rfl rfl rfl (fun w1 H1 => ropen5_short k b.length cb c.length cc B C hk hn w1)) rfl ?_
  refine vl_v (q_move rfl) rfl ?_
  refine vl_v (q_ext rfl rfl) rfl ?_
  refine vl_v (q_ext rfl rfl) rfl ?_
  refine vl_v (q_assign rfl) rfl ?_
  refine vl_v (q_assign rfl) rfl ?_
  refine vl_nil ?_
  refine (th_n ?_)
  refine VC_seq ?_
  refine VC_region ?_
  refine vl_v (q_move rfl) rfl ?_
  refine vl_v (q_callV Try.func36 rfl rfl rfl (fun w1 H1 => tag5_bad c.length cc C hn w1)) rfl ?_
  refine vl_v (q_move rfl) rfl ?_
  refine vl_v (q_ext rfl rfl) rfl ?_
  refine vl_v (q_ext rfl rfl) rfl ?_
  refine l_allocA zr23 rfl ?_
  intro b12
  refine l_storeA 0 rfl rfl rfl sz23 (by first | omega | with_reducible assumption | (simp only [zb, zu, zw, zi, za]; omega) | (simp only [zs, zr, zm, za, zb, zu, zw, zi, zt, zd, zc, zn, *] <;> first | done | omega) | rfl) (by first | (with_reducible first | exact bys_one _ | exact u32s_one _ | exact u64s_one _ | exact i64s_one _ | exact n64s_one _ | assumption) | exact bys_one _ | exact u32s_one _ | exact u64s_one _ | exact i64s_one _ | exact one_all rfl | (refine app_one ?_ ?_ <;> first | exact bys_one _ | (simp; done))) (by first | omega | with_reducible assumption | (simp only [zb, zu, zw, zi, za]; omega) | (simp only [zs, zr, zm, za, zb, zu, zw, zi, zt, zd, zc, zn, *] <;> first | done | omega) | rfl) ?_
  simp only [List.set_cons_zero, List.set_cons_succ]
  refine vl_v (q_assign rfl) rfl ?_
  refine vl_nil ?_
  refine (th_n ?_)
  refine VC_seq ?_
  refine VC_drawV 33 [[], [0], [1], [2, 1], [1], [4, 1], [3, 5, 1], [1, 6], [7, 1], [8], [8], [9, 10, 8], [8, 11], [12, 8], [13], [14, 13], [13], [16, 13], [17, 13], [15, 18, 13], [13, 19], [20, 13], [21], [22, 21], [23, 21], [24], [25, 24], [24], [24], [28, 24], [29, 24], [27, 30, 24], [31, 24], [26, 32, 24], [24, 33, 21], [21, 34], [35, 24, 0, 1, 2, 3, 4, 5, 6, 7, 8, 9, 10, 11, 12, 13, 14, 15, 16, 17, 18, 19, 20, 21, 22, 23, 25, 26, 27, 28, 29, 30, 31, 32, 33, 34]] [[], [0], [0, 1], [0, 1, 2], [0, 1], [0, 1, 4], [0, 1, 2, 3, 4, 5], [0, 1, 2, 3, 4, 5, 6], [0, 1, 2, 3, 4, 5, 6, 7], [0, 1, 2, 3, 4, 5, 6, 7, 8], [0, 1, 2, 3, 4, 5, 6, 7, 8], [0, 1, 2, 3, 4, 5, 6, 7, 8, 9, 10], [0, 1, 2, 3, 4, 5, 6, 7, 8, 9, 10, 11], [0, 1, 2, 3, 4, 5, 6, 7, 8, 9, 10, 11, 12], [0, 1, 2, 3, 4, 5, 6, 7, 8, 9, 10, 11, 12, 13], [0, 1, 2, 3, 4, 5, 6, 7, 8, 9, 10, 11, 12, 13, 14], [0, 1, 2, 3, 4, 5, 6, 7, 8, 9, 10, 11, 12, 13], [0, 1, 2, 3, 4, 5, 6, 7, 8, 9, 10, 11, 12, 13, 16], [0, 1, 2, 3, 4, 5, 6, 7, 8, 9, 10, 11, 12, 13, 16, 17], [0, 1, 2, 3, 4, 5, 6, 7, 8, 9, 10, 11, 12, 13, 14, 15, 16, 17, 18], [0, 1, 2, 3, 4, 5, 6, 7, 8, 9, 10, 11, 12, 13, 14, 15, 16, 17, 18, 19], [0, 1, 2, 3, 4, 5, 6, 7, 8, 9, 10, 11, 12, 13, 14, 15, 16, 17, 18, 19, 20], [0, 1, 2, 3, 4, 5, 6, 7, 8, 9, 10, 11, 12, 13, 14, 15, 16, 17, 18, 19, 20, 21], [0, 1, 2, 3, 4, 5, 6, 7, 8, 9, 10, 11, 12, 13, 14, 15, 16, 17, 18, 19, 20, 21, 22], [0, 1, 2, 3, 4, 5, 6, 7, 8, 9, 10, 11, 12, 13, 14, 15, 16, 17, 18, 19, 20, 21, 22, 23], [0, 1, 2, 3, 4, 5, 6, 7, 8, 9, 10, 11, 12, 13, 14, 15, 16, 17, 18, 19, 20, 21, 22, 23, 24], [0, 1, 2, 3, 4, 5, 6, 7, 8, 9, 10, 11, 12, 13, 14, 15, 16, 17, 18, 19, 20, 21, 22, 23, 24, 25], [0, 1, 2, 3, 4, 5, 6, 7, 8, 9, 10, 11, 12, 13, 14, 15, 16, 17, 18, 19, 20, 21, 22, 23, 24], [0, 1, 2, 3, 4, 5, 6, 7, 8, 9, 10, 11, 12, 13, 14, 15, 16, 17, 18, 19, 20, 21, 22, 23, 24], [0, 1, 2, 3, 4, 5, 6, 7, 8, 9, 10, 11, 12, 13, 14, 15, 16, 17, 18, 19, 20, 21, 22, 23, 24, 28], [0, 1, 2, 3, 4, 5, 6, 7, 8, 9, 10, 11, 12, 13, 14, 15, 16, 17, 18, 19, 20, 21, 22, 23, 24, 28, 29], [0, 1, 2, 3, 4, 5, 6, 7, 8, 9, 10, 11, 12, 13, 14, 15, 16, 17, 18, 19, 20, 21, 22, 23, 24, 27, 28, 29, 30], [0, 1, 2, 3, 4, 5, 6, 7, 8, 9, 10, 11, 12, 13, 14, 15, 16, 17, 18, 19, 20, 21, 22, 23, 24, 27, 28, 29, 30, 31], [0, 1, 2, 3, 4, 5, 6, 7, 8, 9, 10, 11, 12, 13, 14, 15, 16, 17, 18, 19, 20, 21, 22, 23, 24, 25, 26, 27, 28, 29, 30, 31, 32], [0, 1, 2, 3, 4, 5, 6, 7, 8, 9, 10, 11, 12, 13, 14, 15, 16, 17, 18, 19, 20, 21, 22, 23, 24, 25, 26, 27, 28, 29, 30, 31, 32, 33], [0, 1, 2, 3, 4, 5, 6, 7, 8, 9, 10, 11, 12, 13, 14, 15, 16, 17, 18, 19, 20, 21, 22, 23, 24, 25, 26, 27, 28, 29, 30, 31, 32, 33, 34], [0, 1, 2, 3, 4, 5, 6, 7, 8, 9, 10, 11, 12, 13, 14, 15, 16, 17, 18, 19, 20, 21, 22, 23, 24, 25, 26, 27, 28, 29, 30, 31, 32, 33, 34, 35]] rfl (by kernel_rfl) ?_
  refine qv_v (q_move rfl) ?_
  refine qv_v (q_move rfl) ?_
  refine qv_vg (rfl) (q_move rfl) ?_
  refine qv_vg (rfl) (q_str (l := []) Try.underlying24 Try.underlying5 Try.underlying9 rfl (fun w1 H1 => SlAt.nil _ _) rfl) ?_
  refine qv_vg (rfl) (q_move rfl) ?_
  refine qv_vg (rfl) (q_str (l := []) Try.underlying24 Try.underlying5 Try.underlying9 rfl (fun w1 H1 => SlAt.nil _ _) rfl) ?_
  refine qv_vg (rfl) (q_true (q_eqStr Try.underlying9 rfl rfl) (decide_eq_true rfl)) ?_
  first | (refine qv_v (q_pickT rfl rfl) ?_) | (refine qv_v (q_pickF rfl rfl) ?_)
  refine qv_v (q_move rfl) ?_
  refine qv_vg (rfl) (q_move rfl) ?_
  refine qv_vg (rfl) (q_move rfl) ?_
  refine qv_vg (rfl) (q_true (q_eql_n (q := 3) Try.underlying26 rfl rfl) (decide_eq_true rfl)) ?_
  first | (refine qv_v (q_pickT rfl rfl) ?_) | (refine qv_v (q_pickF rfl rfl) ?_)
  refine qv_v (q_move rfl) ?_
  refine qv_vg (rfl) (q_move rfl) ?_
  refine qv_vg (rfl) (q_true (q_eql_n (p := 3) (q := 3) Try.underlying26 rfl rfl) rfl) ?_
  refine qv_vg (rfl) (q_move rfl) ?_
  refine qv_vg (rfl) (q_lenS Try.underlying24 rfl) ?_
  refine qv_vg (rfl) (q_true (q_lss_n (q := 32) Try.underlying3 rfl rfl) (decide_eq_true hn)) ?_
  refine qv_vg (rfl) (q_true (q_eqBo Try.underlying4 rfl rfl) rfl) ?_
  first | (refine qv_v (q_pickT rfl rfl) ?_) | (refine qv_v (q_pickF rfl rfl) ?_)
  refine qv_v (q_move rfl) ?_
  refine qv_vg (rfl) (q_move rfl) ?_
  refine qv_vg (rfl) (q_true (q_neq_n (p := 3) (q := 0) Try.underlying26 rfl rfl) rfl) ?_
  refine qv_vg (rfl) (q_move rfl) ?_
  refine qv_skip rfl ?_
  refine qv_skip rfl ?_
  refine qv_skip rfl ?_
  refine qv_skip rfl ?_
  refine qv_skip rfl ?_
  refine qv_skip rfl ?_
  refine qv_skip rfl ?_
  refine qv_skip rfl ?_
  refine qv_end ?_
  refine VL.keep (Sub.cons (s := 0) rfl (Sub.cons (s := 1) rfl (Sub.cons (s := 2) rfl (Sub.cons (s := 3) rfl (Sub.cons (s := 6) rfl (Sub.cons (s := 7) rfl (Sub.cons (s := 22) rfl (Sub.cons (s := 8) rfl (Sub.cons (s := 9) rfl (Sub.cons (s := 10) rfl (Sub.cons (s := 11) rfl (Sub.cons (s := 12) rfl (Sub.cons (s := 13) rfl (Sub.cons (s := 64) rfl (Sub.cons (s := 67) rfl (Sub.cons (s := 69) rfl (Sub.cons (s := 75) rfl (Sub.nil _)))))))))))))))))) ?_
  refine vl_skip rfl rfl ?_
  first | (refine vl_vg rfl (q_pickT rfl rfl) rfl ?_) | (refine vl_vg rfl (q_pickF rfl rfl) rfl ?_)
  first | (refine vl_v (q_pickT rfl rfl) rfl ?_) | (refine vl_v (q_pickF rfl rfl) rfl ?_)
  refine vl_v (q_assign rfl) rfl ?_
  refine vl_nil ?_
  refine (qn_n (th_n ?_))
  refine VC_ret ?_
  refine ⟨_, res1 rfl rfl, ?_⟩
  exact rfl
set_option maxHeartbeats 1000000 in
theorem opens_long1 (k b c : List UInt8) (B C : Option Addr) (cb cc : Nat) (hb : ¬ b.length ≤ 500) (w : World) :
    Calls Try.prog 15 #[.agg (bys k).toArray, .slice B b.length cb, .slice C c.length cc] w fun e w' => e = .returned (.bool true) ∧ Kept [] w w' := by
  refine enter (n := 79) (R := fun e L => e = .returned (.bool true)) [.agg (bys k).toArray, .slice B b.length cb, .slice C c.length cc] Try.func15 rfl rfl rfl (St.refl w) ?_ (fun e w' L' h H => ⟨h, H.kept⟩)
  refine VC_seq ?_
  refine VC_region ?_
  refine l_boxA rfl rfl ?_
  intro b3
  refine vl_v (q_assign rfl) rfl ?_
  refine vl_nil ?_
  refine (th_n ?_)
  refine VC_seq ?_
  refine VC_region ?_
  refine vl_v (q_callV Try.func33 rfl rfl rfl (fun w1 H1 => awake5_calls w1)) rfl ?_
  refine vl_v (q_assign rfl) rfl ?_
  refine vl_nil ?_
  refine (th_n ?_)
  refine VC_seq ?_
  refine VC_seq ?_
  refine VC_region ?_
  refine vl_v (q_move rfl) rfl ?_
  refine vl_v (q_lenS Try.underlying24 rfl) rfl ?_
  refine vl_v (q_true (q_gtr_n (q := 500) Try.underlying3 rfl rfl) (decide_eq_true (by omega))) rfl ?_
  refine vl_v (q_move rfl) rfl ?_
  refine vl_skip rfl rfl ?_
  refine vl_skip rfl rfl ?_
  refine vl_skip rfl rfl ?_
  first | (refine vl_v (q_pickT rfl rfl) rfl ?_) | (refine vl_v (q_pickF rfl rfl) rfl ?_)
  refine vl_nil ?_
  refine (th_n ?_)
  refine VC_yes (rfl) ?_
  refine VC_seq ?_
  refine VC_region ?_
  refine vl_v (q_move rfl) rfl ?_
  refine vl_v (q_assign rfl) rfl ?_
  refine vl_nil ?_
  refine (th_n ?_)
  refine VC_ret ?_
  refine (th_r ?_)
  refine ⟨_, res1 rfl rfl, ?_⟩
  exact rfl
set_option maxHeartbeats 1000000 in
theorem opens_long2 (k b c : List UInt8) (B C : Option Addr) (cb cc : Nat) (hb : b.length ≤ 500) (hc : ¬ c.length ≤ 500) (w : World) :
    Calls Try.prog 15 #[.agg (bys k).toArray, .slice B b.length cb, .slice C c.length cc] w fun e w' => e = .returned (.bool true) ∧ Kept [] w w' := by
  refine enter (n := 79) (R := fun e L => e = .returned (.bool true)) [.agg (bys k).toArray, .slice B b.length cb, .slice C c.length cc] Try.func15 rfl rfl rfl (St.refl w) ?_ (fun e w' L' h H => ⟨h, H.kept⟩)
  refine VC_seq ?_
  refine VC_region ?_
  refine l_boxA rfl rfl ?_
  intro b3
  refine vl_v (q_assign rfl) rfl ?_
  refine vl_nil ?_
  refine (th_n ?_)
  refine VC_seq ?_
  refine VC_region ?_
  refine vl_v (q_callV Try.func33 rfl rfl rfl (fun w1 H1 => awake5_calls w1)) rfl ?_
  refine vl_v (q_assign rfl) rfl ?_
  refine vl_nil ?_
  refine (th_n ?_)
  refine VC_seq ?_
  refine VC_seq ?_
  refine VC_region ?_
  refine vl_v (q_move rfl) rfl ?_
  refine vl_v (q_lenS Try.underlying24 rfl) rfl ?_
  refine vl_v (q_false (q_gtr_n (q := 500) Try.underlying3 rfl rfl) (by simp; omega)) rfl ?_
  refine vl_v (q_move rfl) rfl ?_
  refine vl_vg rfl (q_move rfl) rfl ?_
  refine vl_vg rfl (q_lenS Try.underlying24 rfl) rfl ?_
  refine vl_vg rfl (q_true (q_gtr_n (q := 500) Try.underlying3 rfl rfl) (decide_eq_true (by omega))) rfl ?_
  first | (refine vl_v (q_pickT rfl rfl) rfl ?_) | (refine vl_v (q_pickF rfl rfl) rfl ?_)
  refine vl_nil ?_
  refine (th_n ?_)
  refine VC_yes (rfl) ?_
  refine VC_seq ?_
  refine VC_region ?_
  refine vl_v (q_move rfl) rfl ?_
  refine vl_v (q_assign rfl) rfl ?_
  refine vl_nil ?_
  refine (th_n ?_)
  refine VC_ret ?_
  refine (th_r ?_)
  refine ⟨_, res1 rfl rfl, ?_⟩
  exact rfl
theorem sealOpens.walk (w : World) (v0 : Value) (k : List UInt8) (h0 : KeyV v0 k) (v1 : Value) (b : List UInt8) (h1 : BsArg w v1 b) (v2 : Value) (c : List UInt8) (h2 : BsArg w v2 c) :
    Calls Try.prog 15 #[v0, v1, v2] w fun e w' => e = .returned (.bool true) ∧ Kept [] w w' := by
  obtain ⟨rfl, hk⟩ := h0
  obtain ⟨B, cb, rfl, hcb, _, hB⟩ := h1
  obtain ⟨C, cc, rfl, hcc, _, hC⟩ := h2
  by_cases hb : b.length ≤ 500
  · by_cases hc : c.length ≤ 500
    · by_cases hn : c.length < 32
      · exact opens_short k b c B C cb cc hn hk hb hc hcb hcc w hB hC
      · obtain ⟨n, hn⟩ : ∃ n, c.length = n + 32 := ⟨c.length - 32, by omega⟩
        by_cases hmt : markW k b (c.take n) = c.drop n
        · exact opens_ok k b c B C cb cc n hn hmt hk hb hc hcb hcc w hB hC
        · exact opens_no k b c B C cb cc n hn hmt hk hb hc hcb hcc w hB hC
    · exact opens_long2 k b c B C cb cc hb hc w
  · exact opens_long1 k b c B C cb cc hb w

namespace sealOpens
open Go.ChangeShapes Go.WideShapes Go.ChangeAt Go.RowKit
theorem own : ownKnob Try.prog.godebug = none := by kernel_rfl
theorem laidOut : laidOutB Try.prog = true := by kernel_rfl
set_option maxRecDepth 100000 in
theorem lifted (os : Os) (started : os.Started) (H : Type) (enc : TypeId × Value → H) :
    ReturnsInHanded {} Try.checked os 15 .any (Rows.sealOpensSpec.pre6 enc Try.prog Try.f15 Rows.sealOpensRow.domain false) (Rows.sealOpensSpec.post enc Try.prog Try.f15 false true false false) := by
  refine returnsInHanded_of_change (C := Try.checked) own started (by kernel_rfl) Try.func15
    (ChangeSpec.witness6 (enc := enc) (C := Try.checked) false ⟨#[], #[(.agg (List.replicate 32 (Value.int .u8 0)).toArray), .slice none 0 0, .slice none 0 0], []⟩ 8 (by kernel_rfl) (by kernel_rfl) (by kernel_rfl) (by kernel_rfl)) ?_
  intro W base args ds gs before hval0 hW hcnd _
  have hval : ∀ (j : Nat) t v, Try.f15.params[j]? = some t → args[j]? = some v → Value.okWide Try.prog W .any base t v := hval0
  have hW' := hW
  obtain ⟨p, q, hA0, hV, rfl, hfz, hnd⟩ := hW
  have hA : DataW.TrodAll enc Try.prog W 0 (fun _ => true) true Try.f15.params.toList args.toList ds p := hA0
  rw [Try.params15] at hA hval
  obtain ⟨v0, vs0, d0, ds0, p0, q0, hargs, rfl, rfl, h0, r0⟩ := trodAll_cons hA
  obtain ⟨v1, vs1, d1, ds1, p1, q1, rfl, rfl, rfl, h1, r1⟩ := trodAll_cons r0
  obtain ⟨v2, vs2, d2, ds2, p2, q2, rfl, rfl, rfl, h2, r2⟩ := trodAll_cons r1
  obtain ⟨rfl, rfl, rfl⟩ := trodAll_nil r2
  obtain rfl : args = #[v0, v1, v2] := by cases args; simp_all
  obtain ⟨rfl, rfl⟩ := trodVars_none hV
  have k0 := h0
  have lt0 : ∀ x ∈ p0, x.block < W.heap.size := by obtain ⟨m, hm⟩ := k0; exact DataW.trod_lt m _ _ _ hm
  have k1 := h1
  have lt1 : ∀ x ∈ p1, x.block < W.heap.size := by obtain ⟨m, hm⟩ := k1; exact DataW.trod_lt m _ _ _ hm
  have k2 := h2
  have lt2 : ∀ x ∈ p2, x.block < W.heap.size := by obtain ⟨m, hm⟩ := k2; exact DataW.trod_lt m _ _ _ hm
  obtain ⟨cs0, e0, f0⟩ := open_flat (ks := (List.replicate 32 .u8)) 6 (by kernel_rfl) (by kernel_rfl) (hval 0 23 v0 rfl rfl) h0
  subst e0
  obtain ⟨l0, g0⟩ := open_key f0
  obtain ⟨l1, g1⟩ := open_bytes Try.underlying24 Try.underlying5 (by kernel_rfl) (hval 1 24 v1 rfl rfl) h1
  obtain ⟨l2, g2⟩ := open_bytes Try.underlying24 Try.underlying5 (by kernel_rfl) (hval 2 24 v2 rfl rfl) h2
  clear hA0 hval0
  refine (sealOpens.walk W _ l0 g0 v1 l1 g1 v2 l2 g2).mono fun e W' ⟨he, hK⟩ => ?_
  subst he
  have bel := hK.below
  exact ⟨_, rfl, _, _, _, [], _, [], hW', trodAll_mk1 (shut_bool Try.underlying4 _), (trodAll_cons_mk (Below.trod laidOut (by kernel_rfl) (of_decide_eq_true (by kernel_rfl)) k0 bel lt0) (trodAll_cons_mk (Below.trod laidOut (by kernel_rfl) (of_decide_eq_true (by kernel_rfl)) k1 bel lt1) (trodAll_cons_mk (Below.trod laidOut (by kernel_rfl) (of_decide_eq_true (by kernel_rfl)) k2 bel lt2) trodAll_mk0))), rfl, bel.frame _, fun h => by cases h⟩
theorem over : Rows.sealOpensRow.holds Try.pinned (OpenSpec.ofChange Rows.sealOpensSpec) :=
  OpenClaim.holds_of_wide 15 Try.f15 rfl rfl rfl rfl rfl rfl rfl ⟨rfl, rfl, rfl, rfl, rfl⟩ rfl rfl rfl rfl rfl (by kernel_rfl) Try.func15 (by kernel_rfl)
    (of_decide_eq_true (by kernel_rfl)) (by unfold Func.isWrapper; first | (rw [if_pos (by decide +kernel)]; kernel_rfl) | (rw [if_neg (by decide +kernel)]; exact ⟨rfl, rfl⟩))
    (fun os started H enc _ => lifted os started H enc)
theorem proved : Rows.SealOpensSaid := over
end sealOpens
/-- The row. -/
theorem sealOpens_holds : Rows.SealOpensSaid := sealOpens.proved
#print axioms sealOpens_holds
end Go.Proofs.Ytkadnmoephkklaa
