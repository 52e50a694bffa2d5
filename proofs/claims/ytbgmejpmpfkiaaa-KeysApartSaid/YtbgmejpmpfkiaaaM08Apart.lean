/- What a source tells hangs on its own seed and number alone: the statement KeysApart. No condition. -/
import Derived.Test.YtbgmejpmpfkiaaaRows
import Derived.Test.YtbgmejpmpfkiaaaQ08h
namespace Go.Proofs.Ytbgmejpmpfkiaaa
open Go.RowKit Go.PBYtbgmejpmpfkiaaa
set_option linter.unusedVariables false
set_option linter.unusedSimpArgs false
set_option maxRecDepth 10000

set_option maxHeartbeats 2000000 in
theorem apart_neg (w : World) (s : List UInt8) (B : Option Addr) (c : Nat) (hc : s.length ≤ c) (hB : SlAt w B (bys s)) (t : List UInt8) (A : Option Addr) (k : Nat) (hk : t.length ≤ k) (hA : SlAt w A (bys t)) (n : Int) (hn : n < 0) :
    Calls Try.prog 3 #[.slice B s.length c, .slice A t.length k, .int .i64 n] w fun e w' => e = .returned (.bool true) ∧ Kept [] w w' := by
  refine enter (n := 77) (R := fun e L => e = .returned (.bool true)) [.slice B s.length c, .slice A t.length k, .int .i64 n] Try.func3 rfl rfl rfl (St.refl w) ?_ (fun e w' L' h H => ⟨h, H.kept⟩)
  refine VC_seq ?_
  refine VC_region ?_
  refine vl_v (q_assign rfl) rfl ?_
  refine vl_nil ?_
  refine (th_n ?_)
  refine VC_seq ?_
  refine VC_region ?_
  refine vl_v (q_callV Try.func8 rfl rfl rfl (fun w1 H1 => awake8_calls w1)) rfl ?_
  refine vl_v (q_assign rfl) rfl ?_
  refine vl_nil ?_
  refine (th_n ?_)
  refine VC_seq ?_
  refine VC_seq ?_
  refine VC_region ?_
  refine vl_v (q_move rfl) rfl ?_
  refine vl_v (q_lenS Try.underlying22 rfl) rfl ?_
  refine vl_v (q_gtr_n (q := 200) Try.underlying3 rfl rfl) rfl ?_
  by_cases hs16 : 200 < s.length
  · skip
    rw [show decide (200 < s.length) = true from decide_eq_true hs16]
    refine vl_v (q_move rfl) rfl ?_
    refine vl_skip rfl rfl ?_
    refine vl_skip rfl rfl ?_
    refine vl_skip rfl rfl ?_
    first | (refine vl_v (q_pickT rfl rfl) rfl ?_) | (refine vl_v (q_pickF rfl rfl) rfl ?_)
    refine vl_v (q_move rfl) rfl ?_
    refine vl_skip rfl rfl ?_
    refine vl_skip rfl rfl ?_
    first | (refine vl_v (q_pickT rfl rfl) rfl ?_) | (refine vl_v (q_pickF rfl rfl) rfl ?_)
    refine vl_v (q_move rfl) rfl ?_
    refine vl_skip rfl rfl ?_
    refine vl_skip rfl rfl ?_
    first | (refine vl_v (q_pickT rfl rfl) rfl ?_) | (refine vl_v (q_pickF rfl rfl) rfl ?_)
    refine vl_nil ?_
    refine (th_n ?_)
    refine VC_yes (rfl) ?_
    refine VC_seq ?_
    refine VC_region ?_
    refine vl_v (q_move rfl) rfl ?_
    refine vl_v (q_assign rfl) rfl ?_
    refine vl_nil ?_
    refine (th_n ?_)
    refine VC_ret ?_
    refine (th_r ?_)
    refine ⟨_, res1 rfl rfl, ?_⟩
    exact rfl
  · skip
    rw [show decide (200 < s.length) = false from decide_eq_false hs16]
    refine vl_v (q_move rfl) rfl ?_
    refine vl_vg rfl (q_move rfl) rfl ?_
    refine vl_vg rfl (q_lenS Try.underlying22 rfl) rfl ?_
    refine vl_vg rfl (q_gtr_n (q := 200) Try.underlying3 rfl rfl) rfl ?_
    by_cases hs20 : 200 < t.length
    · skip
      rw [show decide (200 < t.length) = true from decide_eq_true hs20]
      first | (refine vl_v (q_pickT rfl rfl) rfl ?_) | (refine vl_v (q_pickF rfl rfl) rfl ?_)
      refine vl_v (q_move rfl) rfl ?_
      refine vl_skip rfl rfl ?_
      refine vl_skip rfl rfl ?_
      first | (refine vl_v (q_pickT rfl rfl) rfl ?_) | (refine vl_v (q_pickF rfl rfl) rfl ?_)
      refine vl_v (q_move rfl) rfl ?_
      refine vl_skip rfl rfl ?_
      refine vl_skip rfl rfl ?_
      first | (refine vl_v (q_pickT rfl rfl) rfl ?_) | (refine vl_v (q_pickF rfl rfl) rfl ?_)
      refine vl_nil ?_
      refine (th_n ?_)
      refine VC_yes (rfl) ?_
      refine VC_seq ?_
      refine VC_region ?_
      refine vl_v (q_move rfl) rfl ?_
      refine vl_v (q_assign rfl) rfl ?_
      refine vl_nil ?_
      refine (th_n ?_)
      refine VC_ret ?_
      refine (th_r ?_)
      refine ⟨_, res1 rfl rfl, ?_⟩
      exact rfl
    · skip
      rw [show decide (200 < t.length) = false from decide_eq_false hs20]
      first | (refine vl_v (q_pickT rfl rfl) rfl ?_) | (refine vl_v (q_pickF rfl rfl) rfl ?_)
      refine vl_v (q_move rfl) rfl ?_
      refine vl_vg rfl (q_move rfl) rfl ?_
      refine vl_vg rfl (q_true (q_lss_k Try.underlying3 rfl rfl) (decide_eq_true hn)) rfl ?_
      first | (refine vl_v (q_pickT rfl rfl) rfl ?_) | (refine vl_v (q_pickF rfl rfl) rfl ?_)
      refine vl_v (q_move rfl) rfl ?_
      refine vl_skip rfl rfl ?_
      refine vl_skip rfl rfl ?_
      first | (refine vl_v (q_pickT rfl rfl) rfl ?_) | (refine vl_v (q_pickF rfl rfl) rfl ?_)
      refine vl_nil ?_
      refine (th_n ?_)
      refine VC_yes (rfl) ?_
      refine VC_seq ?_
      refine VC_region ?_
      refine vl_v (q_move rfl) rfl ?_
      refine vl_v (q_assign rfl) rfl ?_
      refine vl_nil ?_
      refine (th_n ?_)
      refine VC_ret ?_
      refine (th_r ?_)
      refine ⟨_, res1 rfl rfl, ?_⟩
      exact rfl
set_option maxHeartbeats 4000000 in
theorem apart_all (w : World) (s : List UInt8) (B : Option Addr) (c : Nat) (hc : s.length ≤ c) (hB : SlAt w B (bys s)) (t : List UInt8) (A : Option Addr) (k : Nat) (hk : t.length ≤ k) (hA : SlAt w A (bys t)) (n : Nat) :
    Calls Try.prog 3 #[.slice B s.length c, .slice A t.length k, vN n] w fun e w' => e = .returned (.bool true) ∧ Kept [] w w' := by
  have hn1 := fun (h : s.length ≤ 200) w hs => snew_calls s B s.length c rfl (by omega) w hs
  have hn2 := fun (h : t.length ≤ 200) w hs => snew_calls t A t.length k rfl (by omega) w hs
  refine enter (n := 77) (R := fun e L => e = .returned (.bool true)) [.slice B s.length c, .slice A t.length k, vN n] Try.func3 rfl rfl rfl (St.refl w) ?_ (fun e w' L' h H => ⟨h, H.kept⟩)
  refine VC_seq ?_
  refine VC_region ?_
  refine vl_v (q_assign rfl) rfl ?_
  refine vl_nil ?_
  refine (th_n ?_)
  refine VC_seq ?_
  refine VC_region ?_
  refine vl_v (q_callV Try.func8 rfl rfl rfl (fun w1 H1 => awake8_calls w1)) rfl ?_
  refine vl_v (q_assign rfl) rfl ?_
  refine vl_nil ?_
  refine (th_n ?_)
  refine VC_seq ?_
  refine VC_seq ?_
  refine VC_region ?_
  refine vl_v (q_move rfl) rfl ?_
  refine vl_v (q_lenS Try.underlying22 rfl) rfl ?_
  refine vl_v (q_gtr_n (q := 200) Try.underlying3 rfl rfl) rfl ?_
  by_cases hs16 : 200 < s.length
  · skip
    rw [show decide (200 < s.length) = true from decide_eq_true hs16]
    refine vl_v (q_move rfl) rfl ?_
    refine vl_skip rfl rfl ?_
    refine vl_skip rfl rfl ?_
    refine vl_skip rfl rfl ?_
    first | (refine vl_v (q_pickT rfl rfl) rfl ?_) | (refine vl_v (q_pickF rfl rfl) rfl ?_)
    refine vl_v (q_move rfl) rfl ?_
    refine vl_skip rfl rfl ?_
    refine vl_skip rfl rfl ?_
    first | (refine vl_v (q_pickT rfl rfl) rfl ?_) | (refine vl_v (q_pickF rfl rfl) rfl ?_)
    refine vl_v (q_move rfl) rfl ?_
    refine vl_skip rfl rfl ?_
    refine vl_skip rfl rfl ?_
    first | (refine vl_v (q_pickT rfl rfl) rfl ?_) | (refine vl_v (q_pickF rfl rfl) rfl ?_)
    refine vl_nil ?_
    refine (th_n ?_)
    refine VC_yes (rfl) ?_
    refine VC_seq ?_
    refine VC_region ?_
    refine vl_v (q_move rfl) rfl ?_
    refine vl_v (q_assign rfl) rfl ?_
    refine vl_nil ?_
    refine (th_n ?_)
    refine VC_ret ?_
    refine (th_r ?_)
    refine ⟨_, res1 rfl rfl, ?_⟩
    exact rfl
  · skip
    rw [show decide (200 < s.length) = false from decide_eq_false hs16]
    refine vl_v (q_move rfl) rfl ?_
    refine vl_vg rfl (q_move rfl) rfl ?_
    refine vl_vg rfl (q_lenS Try.underlying22 rfl) rfl ?_
    refine vl_vg rfl (q_gtr_n (q := 200) Try.underlying3 rfl rfl) rfl ?_
    by_cases hs20 : 200 < t.length
    · skip
      rw [show decide (200 < t.length) = true from decide_eq_true hs20]
      first | (refine vl_v (q_pickT rfl rfl) rfl ?_) | (refine vl_v (q_pickF rfl rfl) rfl ?_)
      refine vl_v (q_move rfl) rfl ?_
      refine vl_skip rfl rfl ?_
      refine vl_skip rfl rfl ?_
      first | (refine vl_v (q_pickT rfl rfl) rfl ?_) | (refine vl_v (q_pickF rfl rfl) rfl ?_)
      refine vl_v (q_move rfl) rfl ?_
      refine vl_skip rfl rfl ?_
      refine vl_skip rfl rfl ?_
      first | (refine vl_v (q_pickT rfl rfl) rfl ?_) | (refine vl_v (q_pickF rfl rfl) rfl ?_)
      refine vl_nil ?_
      refine (th_n ?_)
      refine VC_yes (rfl) ?_
      refine VC_seq ?_
      refine VC_region ?_
      refine vl_v (q_move rfl) rfl ?_
      refine vl_v (q_assign rfl) rfl ?_
      refine vl_nil ?_
      refine (th_n ?_)
      refine VC_ret ?_
      refine (th_r ?_)
      refine ⟨_, res1 rfl rfl, ?_⟩
      exact rfl
    · skip
      rw [show decide (200 < t.length) = false from decide_eq_false hs20]
      first | (refine vl_v (q_pickT rfl rfl) rfl ?_) | (refine vl_v (q_pickF rfl rfl) rfl ?_)
      refine vl_v (q_move rfl) rfl ?_
      refine vl_vg rfl (q_move rfl) rfl ?_
      refine vl_vg rfl (q_false (q_lss_n (q := 0) Try.underlying3 rfl rfl) (decide_eq_false (by omega))) rfl ?_
      first | (refine vl_v (q_pickT rfl rfl) rfl ?_) | (refine vl_v (q_pickF rfl rfl) rfl ?_)
      refine vl_v (q_move rfl) rfl ?_
      refine vl_vg rfl (q_move rfl) rfl ?_
      refine vl_vg rfl (q_gtr_n (q := 5) Try.underlying3 rfl rfl) rfl ?_
      first | (refine vl_v (q_pickT rfl rfl) rfl ?_) | (refine vl_v (q_pickF rfl rfl) rfl ?_)
      refine vl_nil ?_
      refine (th_n ?_)
      refine VC_cond rfl (fun ht29 => ?_) (fun ht29 => ?_)
      · skip
        have ht29 := of_decide_eq_true ht29
        refine VC_seq ?_
        refine VC_region ?_
        refine vl_v (q_move rfl) rfl ?_
        refine vl_v (q_assign rfl) rfl ?_
        refine vl_nil ?_
        refine (th_n ?_)
        refine VC_ret ?_
        refine (th_r ?_)
        refine ⟨_, res1 rfl rfl, ?_⟩
        exact rfl
      · skip
        have ht29 := of_decide_eq_false ht29
        refine VC_skip ?_
        refine (th_n ?_)
        refine VC_seq ?_
        refine VC_region ?_
        refine vl_v (q_move rfl) rfl ?_
        refine l_callG Try.func9 rfl rfl rfl (fun w1 H1 => hn1 (by omega) w1 (Reads.old hB w1 H1)) rfl ?_
        intro x32
        refine vl_v (q_assign rfl) rfl ?_
        refine vl_nil ?_
        refine (th_n ?_)
        refine VC_seq ?_
        refine VC_region ?_
        refine vl_v (q_move rfl) rfl ?_
        refine l_callG Try.func9 rfl rfl rfl (fun w1 H1 => hn2 (by omega) w1 (Reads.old hA w1 H1)) rfl ?_
        intro x34
        refine vl_v (q_assign rfl) rfl ?_
        refine vl_nil ?_
        refine (th_n ?_)
        refine VC_seq ?_
        refine VC_seq ?_
        refine VC_region ?_
        refine vl_v (q_move rfl) rfl ?_
        refine vl_v (q_eqPN Try.underlying24 rfl rfl) rfl ?_
        refine vl_v (q_move rfl) rfl ?_
        refine vl_vg rfl (q_move rfl) rfl ?_
        refine vl_vg rfl (q_eqPN Try.underlying24 rfl rfl) rfl ?_
        first | (refine vl_v (q_pickT rfl rfl) rfl ?_) | (refine vl_v (q_pickF rfl rfl) rfl ?_)
        refine vl_nil ?_
        refine (th_n ?_)
        refine VC_no (rfl) ?_
        refine VC_skip ?_
        refine (th_n ?_)
        refine VC_seq ?_
        refine VC_seq ?_
        refine VC_region ?_
        refine vl_v (q_assign rfl) rfl ?_
        refine vl_nil ?_
        refine (th_n ?_)
        refine VC_block ?_
        refine VC_loop (ι := Nat) (fun i => i ≤ n + 1) (fun i => [(0, .slice B s.length c), (1, .slice A t.length k), (2, vN n), (7, .bool true), (8, vP x32.1 0), (9, vP x34.1 0), (10, vN i)]) (fun i => srcS x32.1 s x32.2 i ++ srcS x34.1 t x34.2 i) (fun i => n + 1 - i) 0 (by omega) (Sub.cons (s := 0) rfl (Sub.cons (s := 1) rfl (Sub.cons (s := 2) rfl (Sub.cons (s := 7) rfl (Sub.cons (s := 8) rfl (Sub.cons (s := 9) rfl (Sub.cons (s := 10) rfl (Sub.nil _)))))))) (fun w H => St.pick H (ks := [2, 3, 0, 1]) (by decide) rfl) ?_
        rintro i hp
        refine VC_seq ?_
        refine VC_seq ?_
        refine VC_region ?_
        refine vl_v (q_move rfl) rfl ?_
        refine vl_v (q_move rfl) rfl ?_
        first | (refine vl_v (q_leq_n Try.underlying3 rfl rfl) rfl ?_) | (refine vl_v (q_leq_k Try.underlying3 rfl rfl) rfl ?_)
        refine vl_nil ?_
        refine (th_n ?_)
        refine VC_cond rfl (fun ht43 => ?_) (fun ht43 => ?_)
        · skip
          have ht43 := of_decide_eq_true ht43
          refine VC_skip ?_
          refine (th_n ?_)
          refine VC_seq ?_
          refine VC_block ?_
          refine VC_seq ?_
          refine VC_region ?_
          refine vl_v (q_move rfl) rfl ?_
          refine l_callE Try.func10 rfl rfl rfl (fun w1 H1 => skey_calls _ s x32.2 i (by omega) (by omega) w1 H1) rfl ?_
          refine l_allocA zr27 rfl ?_
          intro b11
          refine l_storeA 0 rfl rfl rfl sz27 (by first | with_reducible assumption | omega | (rw [bys_length, List.length_replicate]) | (rw [bys_length]; exact keyB_length _ _)) (by first | (with_reducible first | exact bys_one _ | exact u32s_one _ | exact u64s_one _ | exact i64s_one _ | exact n64s_one _ | assumption) | exact bys_one _ | exact u32s_one _ | exact u64s_one _ | exact i64s_one _ | exact one_all rfl | (refine app_one ?_ ?_ <;> first | exact bys_one _ | exact one_all rfl | (simp; done))) (by first | with_reducible assumption | omega | (rw [bys_length, List.length_replicate]) | (rw [bys_length]; exact keyB_length _ _)) ?_
          simp only [List.set_cons_zero, List.set_cons_succ]
          refine vl_nil ?_
          refine (th_n ?_)
          refine VC_seq ?_
          refine VC_region ?_
          refine vl_v (q_move rfl) rfl ?_
          refine l_callE Try.func10 rfl rfl rfl (fun w1 H1 => (skey_calls _ t x34.2 i (by omega) (by omega) w1 (H1.pick (ks := [3, 4, 0, 1, 2]) (by decide) rfl)).mono fun e w' h => ⟨h.1, h.2.pick (ks := [2, 3, 4, 0, 1]) (by decide) rfl⟩) rfl ?_
          refine l_allocA zr27 rfl ?_
          intro b12
          refine l_storeA 0 rfl rfl rfl sz27 (by first | with_reducible assumption | omega | (rw [bys_length, List.length_replicate]) | (rw [bys_length]; exact keyB_length _ _)) (by first | (with_reducible first | exact bys_one _ | exact u32s_one _ | exact u64s_one _ | exact i64s_one _ | exact n64s_one _ | assumption) | exact bys_one _ | exact u32s_one _ | exact u64s_one _ | exact i64s_one _ | exact one_all rfl | (refine app_one ?_ ?_ <;> first | exact bys_one _ | exact one_all rfl | (simp; done))) (by first | with_reducible assumption | omega | (rw [bys_length, List.length_replicate]) | (rw [bys_length]; exact keyB_length _ _)) ?_
          simp only [List.set_cons_zero, List.set_cons_succ]
          refine vl_nil ?_
          refine (th_n ?_)
          refine VC_seq ?_
          refine VC_drawV 10 [[], [], [], [1, 2], [0, 3], [4, 3], [5], [5], [5], [7, 8, 5], [6, 9, 5], [5, 10]] [[], [], [], [1, 2], [0, 1, 2, 3], [0, 1, 2, 3, 4], [0, 1, 2, 3, 4, 5], [0, 1, 2, 3, 4, 5], [0, 1, 2, 3, 4, 5], [0, 1, 2, 3, 4, 5, 7, 8], [0, 1, 2, 3, 4, 5, 6, 7, 8, 9], [0, 1, 2, 3, 4, 5, 6, 7, 8, 9, 10]] rfl (by kernel_rfl) ?_
          refine qv_v (q_loads 1 Try.underlying27 rfl rfl rfl sz27 (by rw [bys_length]; exact keyB_length _ _)) ?_
          refine qv_v (q_move rfl) ?_
          refine qv_v (q_move rfl) ?_
          refine qv_v (q_callV Try.func11 rfl rfl rfl (fun w1 H1 => rskey_calls s B s.length c i rfl (by omega) hc (by omega) w1 (Reads.old hB w1 H1))) ?_
          refine qv_v (q_as (v := .bool false) (q_neB flat32 rfl rfl (fits_bys' (keyB_length s i)) (fits_bys' (keyB_length s i))) (by rw [decide_eq_true rfl]; rfl)) ?_
          refine qv_v (q_move rfl) ?_
          refine qv_vg (rfl) (q_loads 0 Try.underlying27 rfl rfl rfl sz27 (by rw [bys_length]; exact keyB_length _ _)) ?_
          refine qv_vg (rfl) (q_move rfl) ?_
          refine qv_vg (rfl) (q_move rfl) ?_
          refine qv_vg (rfl) (q_callV Try.func11 rfl rfl rfl (fun w1 H1 => rskey_calls t A t.length k i rfl (by omega) hk (by omega) w1 (Reads.old hA w1 H1))) ?_
          refine qv_end ?_
          refine VL.keep (Sub.cons (s := 0) rfl (Sub.cons (s := 1) rfl (Sub.cons (s := 2) rfl (Sub.cons (s := 7) rfl (Sub.cons (s := 8) rfl (Sub.cons (s := 9) rfl (Sub.cons (s := 10) rfl (Sub.cons (s := 43) rfl (Sub.cons (s := 11) rfl (Sub.cons (s := 12) rfl (Sub.cons (s := 55) rfl (Sub.cons (s := 56) rfl (Sub.cons (s := 59) rfl (Sub.nil _)))))))))))))) ?_
          refine vl_vg rfl (q_as (v := .bool false) (q_neB flat32 rfl rfl (fits_bys' (keyB_length t i)) (fits_bys' (keyB_length t i))) (by rw [decide_eq_true rfl]; rfl)) rfl ?_
          first | (refine vl_v (q_pickT rfl rfl) rfl ?_) | (refine vl_v (q_pickF rfl rfl) rfl ?_)
          refine vl_nil ?_
          refine (qn_n (th_n ?_))
          refine VC_no (rfl) ?_
          refine VC_skip ?_
          refine (bl_n (th_n ?_))
          refine VC_region ?_
          refine vl_v (q_move rfl) rfl ?_
          first | (refine vl_v (q_add_n (q := 1) rfl rfl (by omega)) rfl ?_) | (refine vl_v (q_add_i rfl rfl (by omega) (by omega)) rfl ?_)
          refine vl_v (q_assign rfl) rfl ?_
          refine vl_nil ?_
          refine (th_n ?_)
          refine ⟨i + 1, by omega, by omega, (Sub.cons (s := 0) rfl (Sub.cons (s := 1) rfl (Sub.cons (s := 2) rfl (Sub.cons (s := 7) rfl (Sub.cons (s := 8) rfl (Sub.cons (s := 9) rfl (Sub.cons (s := 10) rfl (Sub.nil _)))))))), fun w H => St.pick H (ks := [2, 3, 4, 5]) (by decide) rfl⟩
        · skip
          have ht43 := of_decide_eq_false ht43
          obtain rfl : i = n + 1 := by omega
          refine VC_exit ?_
          refine (th_x (th_x (bl_xs (th_n ?_))))
          refine VC_seq ?_
          refine VC_region ?_
          refine vl_v (q_move rfl) rfl ?_
          refine vl_v (q_move rfl) rfl ?_
          refine vl_vg rfl (q_move rfl) rfl ?_
          refine vl_vg rfl (q_callV Try.func12 rfl rfl rfl (fun w1 H1 => many_calls _ s x32.2 (n + 1) w1 H1)) rfl ?_
          refine vl_vg rfl (q_move rfl) rfl ?_
          first | (refine vl_vg rfl (q_add_n (q := 1) rfl rfl (by omega)) rfl ?_) | (refine vl_vg rfl (q_add_i rfl rfl (by omega) (by omega)) rfl ?_)
          refine vl_vg rfl (q_true (q_eql_n Try.underlying3 rfl rfl) (decide_eq_true rfl)) rfl ?_
          first | (refine vl_v (q_pickT rfl rfl) rfl ?_) | (refine vl_v (q_pickF rfl rfl) rfl ?_)
          refine vl_v (q_move rfl) rfl ?_
          refine vl_vg rfl (q_move rfl) rfl ?_
          refine vl_vg rfl (q_callV Try.func12 rfl rfl rfl (fun w1 H1 => many_calls _ t x34.2 (n + 1) w1 (H1.pick (ks := [2, 3, 0, 1]) (by decide) rfl))) rfl ?_
          refine vl_vg rfl (q_move rfl) rfl ?_
          first | (refine vl_vg rfl (q_add_n (q := 1) rfl rfl (by omega)) rfl ?_) | (refine vl_vg rfl (q_add_i rfl rfl (by omega) (by omega)) rfl ?_)
          refine vl_vg rfl (q_true (q_eql_n Try.underlying3 rfl rfl) (decide_eq_true rfl)) rfl ?_
          first | (refine vl_v (q_pickT rfl rfl) rfl ?_) | (refine vl_v (q_pickF rfl rfl) rfl ?_)
          refine vl_v (q_assign rfl) rfl ?_
          refine vl_nil ?_
          refine (th_n ?_)
          refine VC_ret ?_
          refine ⟨_, res1 rfl rfl, ?_⟩
          exact rfl
theorem keysApart.walk (w : World) (v0 : Value) (s : List UInt8) (h0 : BsArg w v0 s) (v1 : Value) (t : List UInt8) (h1 : BsArg w v1 t) (n : Int) (h2 : (Lit.int .i64 n).wf = true) :
    Calls Try.prog 3 #[v0, v1, .int .i64 n] w fun e w' => e = .returned (.bool true) ∧ Kept [] w w' := by
  obtain ⟨B, c, rfl, hc, _, hB⟩ := h0
  obtain ⟨A, k, rfl, hk, _, hA⟩ := h1
  by_cases hn : n < 0
  · exact apart_neg w s B c hc hB t A k hk hA n hn
  · obtain ⟨m, rfl⟩ : ∃ m : Nat, n = (m : Int) := ⟨n.toNat, by omega⟩
    exact apart_all w s B c hc hB t A k hk hA m

namespace keysApart
open Go.ChangeShapes Go.WideShapes Go.ChangeAt Go.RowKit
theorem own : ownKnob Try.prog.godebug = none := by kernel_rfl
theorem laidOut : laidOutB Try.prog = true := by kernel_rfl
set_option maxRecDepth 100000 in
theorem lifted (os : Os) (started : os.Started) (H : Type) (enc : TypeId × Value → H) :
    ReturnsInHanded {} Try.checked os 3 .any (Rows.keysApartSpec.pre6 enc Try.prog Try.f3 Rows.keysApartRow.domain false) (Rows.keysApartSpec.post enc Try.prog Try.f3 false true false false) := by
  refine returnsInHanded_of_change (C := Try.checked) own started (by kernel_rfl) Try.func3
    (ChangeSpec.witness6 (enc := enc) (C := Try.checked) false ⟨#[], #[.slice none 0 0, .slice none 0 0, .int .i64 0], []⟩ 8 (by kernel_rfl) (by kernel_rfl) (by kernel_rfl) (by kernel_rfl)) ?_
  intro W base args ds gs before hval0 hW hcnd _
  have hval : ∀ (j : Nat) t v, Try.f3.params[j]? = some t → args[j]? = some v → Value.okWide Try.prog W .any base t v := hval0
  have hW' := hW
  obtain ⟨p, q, hA0, hV, rfl, hfz, hnd⟩ := hW
  have hA : DataW.TrodAll enc Try.prog W 0 (fun _ => true) true Try.f3.params.toList args.toList ds p := hA0
  rw [Try.params3] at hA hval
  obtain ⟨v0, vs0, d0, ds0, p0, q0, hargs, rfl, rfl, h0, r0⟩ := trodAll_cons hA
  obtain ⟨v1, vs1, d1, ds1, p1, q1, rfl, rfl, rfl, h1, r1⟩ := trodAll_cons r0
  obtain ⟨v2, vs2, d2, ds2, p2, q2, rfl, rfl, rfl, h2, r2⟩ := trodAll_cons r1
  obtain ⟨rfl, rfl, rfl⟩ := trodAll_nil r2
  obtain rfl : args = #[v0, v1, v2] := by cases args; simp_all
  obtain ⟨rfl, rfl⟩ := trodVars_none hV
  have k0 := h0
  have lt0 : ∀ x ∈ p0, x.block < W.heap.size := by obtain ⟨m, hm⟩ := k0; exact DataW.trod_lt m _ _ _ hm
  have k1 := h1
  have lt1 : ∀ x ∈ p1, x.block < W.heap.size := by obtain ⟨m, hm⟩ := k1; exact DataW.trod_lt m _ _ _ hm
  have k2 := h2
  have lt2 : ∀ x ∈ p2, x.block < W.heap.size := by obtain ⟨m, hm⟩ := k2; exact DataW.trod_lt m _ _ _ hm
  obtain ⟨l0, g0⟩ := open_bytes Try.underlying22 Try.underlying5 (by kernel_rfl) (hval 0 22 v0 rfl rfl) h0
  obtain ⟨l1, g1⟩ := open_bytes Try.underlying22 Try.underlying5 (by kernel_rfl) (hval 1 22 v1 rfl rfl) h1
  obtain ⟨n2, rfl, _, _, g2⟩ := open_int Try.underlying3 (hval 2 3 v2 rfl rfl) h2
  clear hA0 hval0
  refine (keysApart.walk W v0 l0 g0 v1 l1 g1 n2 g2).mono fun e W' ⟨he, hK⟩ => ?_
  subst he
  have bel := hK.below
  exact ⟨_, rfl, _, _, _, [], _, [], hW', trodAll_mk1 (shut_bool Try.underlying4 _), (trodAll_cons_mk (Below.trod laidOut (by kernel_rfl) (of_decide_eq_true (by kernel_rfl)) k0 bel lt0) (trodAll_cons_mk (Below.trod laidOut (by kernel_rfl) (of_decide_eq_true (by kernel_rfl)) k1 bel lt1) (trodAll_cons_mk (Below.trod laidOut (by kernel_rfl) (of_decide_eq_true (by kernel_rfl)) k2 bel lt2) trodAll_mk0))), rfl, bel.frame _, fun h => by cases h⟩
theorem over : Rows.keysApartRow.holds Try.pinned (OpenSpec.ofChange Rows.keysApartSpec) :=
  OpenClaim.holds_of_wide 3 Try.f3 rfl rfl rfl rfl rfl rfl rfl ⟨rfl, rfl, rfl, rfl, rfl⟩ rfl rfl rfl rfl rfl (by kernel_rfl) Try.func3 (by kernel_rfl)
    (of_decide_eq_true (by kernel_rfl)) (by unfold Func.isWrapper; first | (rw [if_pos (by decide +kernel)]; kernel_rfl) | (rw [if_neg (by decide +kernel)]; exact ⟨rfl, rfl⟩))
    (fun os started H enc _ => lifted os started H enc)
theorem proved : Rows.KeysApartSaid := over
end keysApart
/-- The row. -/
theorem keysApart_holds : Rows.KeysApartSaid := keysApart.proved
#print axioms keysApart_holds
end Go.Proofs.Ytbgmejpmpfkiaaa
