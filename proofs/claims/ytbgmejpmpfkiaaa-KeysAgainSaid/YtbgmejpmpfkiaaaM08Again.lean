/- Sources of the same seed tell the same: the statement KeysAgain. No condition. -/
import Derived.Test.YtbgmejpmpfkiaaaRows
import Derived.Test.YtbgmejpmpfkiaaaQ08h
namespace Go.Proofs.Ytbgmejpmpfkiaaa
open Go.RowKit Go.PBYtbgmejpmpfkiaaa
set_option linter.unusedVariables false
set_option linter.unusedSimpArgs false
set_option maxRecDepth 10000

set_option maxHeartbeats 2000000 in
theorem again_neg (w : World) (s : List UInt8) (B : Option Addr) (c : Nat) (hc : s.length ≤ c) (hB : SlAt w B (bys s)) (n : Int) (hn : n < 0) :
    Calls Try.prog 7 #[.slice B s.length c, .int .i64 n] w fun e w' => e = .returned (.bool true) ∧ Kept [] w w' := by
  refine enter (n := 71) (R := fun e L => e = .returned (.bool true)) [.slice B s.length c, .int .i64 n] Try.func7 rfl rfl rfl (St.refl w) ?_ (fun e w' L' h H => ⟨h, H.kept⟩)
  refine VC_seq ?_
  refine VC_region ?_
  refine vl_v (q_assign rfl) rfl ?_
  refine vl_nil ?_
  refine (th_n ?_)
  refine VC_seq ?_
  refine VC_region ?_
  refine vl_v (q_callV Try.func8 rfl rfl rfl (fun w1 H1 => awake8_calls w1)) rfl ?_
  refine vl_v (q_assign rfl) rfl ?_
  refine vl_nil ?_
  refine (th_n ?_)
  refine VC_seq ?_
  refine VC_seq ?_
  refine VC_region ?_
  refine vl_v (q_move rfl) rfl ?_
  refine vl_v (q_lenS Try.underlying22 rfl) rfl ?_
  refine vl_v (q_gtr_n (q := 300) Try.underlying3 rfl rfl) rfl ?_
  by_cases hs16 : 300 < s.length
  · skip
    rw [show decide (300 < s.length) = true from decide_eq_true hs16]
    refine vl_v (q_move rfl) rfl ?_
    refine vl_skip rfl rfl ?_
    refine vl_skip rfl rfl ?_
    first | (refine vl_v (q_pickT rfl rfl) rfl ?_) | (refine vl_v (q_pickF rfl rfl) rfl ?_)
    refine vl_v (q_move rfl) rfl ?_
    refine vl_skip rfl rfl ?_
    refine vl_skip rfl rfl ?_
    first | (refine vl_v (q_pickT rfl rfl) rfl ?_) | (refine vl_v (q_pickF rfl rfl) rfl ?_)
    refine vl_nil ?_
    refine (th_n ?_)
    refine VC_yes (rfl) ?_
    refine VC_seq ?_
    refine VC_region ?_
    refine vl_v (q_move rfl) rfl ?_
    refine vl_v (q_assign rfl) rfl ?_
    refine vl_nil ?_
    refine (th_n ?_)
    refine VC_ret ?_
    refine (th_r ?_)
    refine ⟨_, res1 rfl rfl, ?_⟩
    exact rfl
  · skip
    rw [show decide (300 < s.length) = false from decide_eq_false hs16]
    refine vl_v (q_move rfl) rfl ?_
    refine vl_vg rfl (q_move rfl) rfl ?_
    refine vl_vg rfl (q_true (q_lss_k Try.underlying3 rfl rfl) (decide_eq_true hn)) rfl ?_
    first | (refine vl_v (q_pickT rfl rfl) rfl ?_) | (refine vl_v (q_pickF rfl rfl) rfl ?_)
    refine vl_v (q_move rfl) rfl ?_
    refine vl_skip rfl rfl ?_
    refine vl_skip rfl rfl ?_
    first | (refine vl_v (q_pickT rfl rfl) rfl ?_) | (refine vl_v (q_pickF rfl rfl) rfl ?_)
    refine vl_nil ?_
    refine (th_n ?_)
    refine VC_yes (rfl) ?_
    refine VC_seq ?_
    refine VC_region ?_
    refine vl_v (q_move rfl) rfl ?_
    refine vl_v (q_assign rfl) rfl ?_
    refine vl_nil ?_
    refine (th_n ?_)
    refine VC_ret ?_
    refine (th_r ?_)
    refine ⟨_, res1 rfl rfl, ?_⟩
    exact rfl
set_option maxHeartbeats 4000000 in
theorem again_all (w : World) (s : List UInt8) (B : Option Addr) (c : Nat) (hc : s.length ≤ c) (hB : SlAt w B (bys s)) (n : Nat) :
    Calls Try.prog 7 #[.slice B s.length c, vN n] w fun e w' => e = .returned (.bool true) ∧ Kept [] w w' := by
  have hn1 := fun (h : s.length ≤ 300) B c w hs => snew_calls s B s.length c rfl (by omega) w hs
  have lp := pairB_length (keyB s n)
  have lk := keyB_length s n
  have hpc := fun B m cb hm hb w hB hcb => pair_calls (keyB s n) B m cb hm hb w hB hcb
  have hk1 := fun (L : List Res) b x (h : s.length ≤ 300) (h2 : n ≤ 6) w1 H1 => skey_calls (L := L) (w0 := w) b s x n (by omega) (by omega) w1 H1
  have hk2 := fun (L : List Res) b x (h : s.length ≤ 300) (h2 : n ≤ 6) w1 H1 => spair_calls (L := L) (w0 := w) b s x n (by omega) (by omega) w1 H1
  obtain ⟨q, hq⟩ : ∃ q, keyB s n = q := ⟨_, rfl⟩
  rw [hq] at lp lk hpc hk1 hk2
  obtain ⟨p, hp⟩ : ∃ p, pairB q = p := ⟨_, rfl⟩
  rw [hp] at lp hpc hk2
  have lbq : (bys q).length = 32 := by rw [bys_length]; exact lk
  have lbp : (bys p).length = 64 := by rw [bys_length]; exact lp
  have lz : (bys (List.replicate 32 0)).length = 32 := by rw [bys_length, List.length_replicate]
  have lz2 : (bys (List.replicate 32 0) ++ bys (List.replicate 32 0)).length = 64 := by rw [List.length_append, lz]
  refine enter (n := 71) (R := fun e L => e = .returned (.bool true)) [.slice B s.length c, vN n] Try.func7 rfl rfl rfl (St.refl w) ?_ (fun e w' L' h H => ⟨h, H.kept⟩)
  refine VC_seq ?_
  refine VC_region ?_
  refine vl_v (q_assign rfl) rfl ?_
  refine vl_nil ?_
  refine (th_n ?_)
  refine VC_seq ?_
  refine VC_region ?_
  refine vl_v (q_callV Try.func8 rfl rfl rfl (fun w1 H1 => awake8_calls w1)) rfl ?_
  refine vl_v (q_assign rfl) rfl ?_
  refine vl_nil ?_
  refine (th_n ?_)
  refine VC_seq ?_
  refine VC_seq ?_
  refine VC_region ?_
  refine vl_v (q_move rfl) rfl ?_
  refine vl_v (q_lenS Try.underlying22 rfl) rfl ?_
  refine vl_v (q_gtr_n (q := 300) Try.underlying3 rfl rfl) rfl ?_
  by_cases hs16 : 300 < s.length
  · skip
    rw [show decide (300 < s.length) = true from decide_eq_true hs16]
    refine vl_v (q_move rfl) rfl ?_
    refine vl_skip rfl rfl ?_
    refine vl_skip rfl rfl ?_
    first | (refine vl_v (q_pickT rfl rfl) rfl ?_) | (refine vl_v (q_pickF rfl rfl) rfl ?_)
    refine vl_v (q_move rfl) rfl ?_
    refine vl_skip rfl rfl ?_
    refine vl_skip rfl rfl ?_
    first | (refine vl_v (q_pickT rfl rfl) rfl ?_) | (refine vl_v (q_pickF rfl rfl) rfl ?_)
    refine vl_nil ?_
    refine (th_n ?_)
    refine VC_yes (rfl) ?_
    refine VC_seq ?_
    refine VC_region ?_
    refine vl_v (q_move rfl) rfl ?_
    refine vl_v (q_assign rfl) rfl ?_
    refine vl_nil ?_
    refine (th_n ?_)
    refine VC_ret ?_
    refine (th_r ?_)
    refine ⟨_, res1 rfl rfl, ?_⟩
    exact rfl
  · skip
    rw [show decide (300 < s.length) = false from decide_eq_false hs16]
    refine vl_v (q_move rfl) rfl ?_
    refine vl_vg rfl (q_move rfl) rfl ?_
    refine vl_vg rfl (q_false (q_lss_n (q := 0) Try.underlying3 rfl rfl) (decide_eq_false (by omega))) rfl ?_
    first | (refine vl_v (q_pickT rfl rfl) rfl ?_) | (refine vl_v (q_pickF rfl rfl) rfl ?_)
    refine vl_v (q_move rfl) rfl ?_
    refine vl_vg rfl (q_move rfl) rfl ?_
    refine vl_vg rfl (q_gtr_n (q := 6) Try.underlying3 rfl rfl) rfl ?_
    first | (refine vl_v (q_pickT rfl rfl) rfl ?_) | (refine vl_v (q_pickF rfl rfl) rfl ?_)
    refine vl_nil ?_
    refine (th_n ?_)
    refine VC_cond rfl (fun ht24 => ?_) (fun ht24 => ?_)
    · skip
      have ht24 := of_decide_eq_true ht24
      refine VC_seq ?_
      refine VC_region ?_
      refine vl_v (q_move rfl) rfl ?_
      refine vl_v (q_assign rfl) rfl ?_
      refine vl_nil ?_
      refine (th_n ?_)
      refine VC_ret ?_
      refine (th_r ?_)
      refine ⟨_, res1 rfl rfl, ?_⟩
      exact rfl
    · skip
      have ht24 := of_decide_eq_false ht24
      refine VC_skip ?_
      refine (th_n ?_)
      refine VC_seq ?_
      refine VC_region ?_
      refine vl_v (q_move rfl) rfl ?_
      refine l_callG Try.func9 rfl rfl rfl (fun w1 H1 => hn1 (by omega) _ _ w1 (Reads.old hB w1 H1)) rfl ?_
      intro x27
      refine vl_v (q_assign rfl) rfl ?_
      refine vl_nil ?_
      refine (th_n ?_)
      refine VC_seq ?_
      refine VC_region ?_
      refine l_litA (cs := bys []) Try.underlying22 in5 (by decide) rfl rfl rfl rfl (by first | (with_reducible first | exact bys_one _ | exact u32s_one _ | exact u64s_one _ | exact i64s_one _ | exact n64s_one _ | assumption) | exact bys_one _ | exact u32s_one _ | exact u64s_one _ | exact i64s_one _ | exact one_all rfl | (refine app_one ?_ ?_ <;> first | exact bys_one _ | exact one_all rfl | (simp; done))) rfl rfl ?_
      intro b28
      refine vl_v (q_move rfl) rfl ?_
      refine l_append 0 rfl rfl rfl Try.underlying22 Try.underlying22 in5 rfl (by decide) (Reads.old hB) (by first | with_reducible assumption | omega | exact lz | exact lz2 | (simp only [bys_length]; omega)) (by first | (with_reducible first | exact bys_one _ | exact u32s_one _ | exact u64s_one _ | exact i64s_one _ | exact n64s_one _ | assumption) | exact bys_one _ | exact u32s_one _ | exact u64s_one _ | exact i64s_one _ | exact one_all rfl | (refine app_one ?_ ?_ <;> first | exact bys_one _ | exact one_all rfl | (simp; done))) (by first | with_reducible assumption | omega | exact lz | exact lz2 | (simp only [bys_length]; omega)) (by first | with_reducible assumption | omega | exact lz | exact lz2 | (simp only [bys_length]; omega)) rfl ?_
      intro A30 c30 hc30
      simp only [List.set_cons_zero, List.set_cons_succ, ← bys_append, ← u32s_append, ← u64s_append, ← i64s_append, List.nil_append, Nat.zero_add]
      refine l_callG Try.func9 rfl rfl rfl (fun w1 H1 => hn1 (by omega) _ _ w1 (Reads.row 0 rfl w1 H1)) rfl ?_
      intro x31
      refine vl_v (q_assign rfl) rfl ?_
      refine vl_nil ?_
      refine (th_n ?_)
      refine VC_seq ?_
      refine VC_seq ?_
      refine VC_region ?_
      refine vl_v (q_move rfl) rfl ?_
      refine vl_v (q_eqPN Try.underlying24 rfl rfl) rfl ?_
      refine vl_v (q_move rfl) rfl ?_
      refine vl_vg rfl (q_move rfl) rfl ?_
      refine vl_vg rfl (q_eqPN Try.underlying24 rfl rfl) rfl ?_
      first | (refine vl_v (q_pickT rfl rfl) rfl ?_) | (refine vl_v (q_pickF rfl rfl) rfl ?_)
      refine vl_nil ?_
      refine (th_n ?_)
      refine VC_no (rfl) ?_
      refine VC_skip ?_
      refine (th_n ?_)
      refine VC_seq ?_
      refine VC_seq ?_
      refine VC_region ?_
      refine vl_v (q_assign rfl) rfl ?_
      refine vl_nil ?_
      refine (th_n ?_)
      refine VC_block ?_
      refine VC_loop (ι := Nat) (fun i => i ≤ n) (fun i => [(0, .slice B s.length c), (1, vN n), (5, .bool true), (6, vP x27.1 0), (7, vP x31.1 0), (8, vN i)]) (fun i => srcS x27.1 s x27.2 i ++ srcS x31.1 s x31.2 0) (fun i => n - i) 0 (by omega) (Sub.cons (s := 0) rfl (Sub.cons (s := 1) rfl (Sub.cons (s := 5) rfl (Sub.cons (s := 6) rfl (Sub.cons (s := 7) rfl (Sub.cons (s := 8) rfl (Sub.nil _))))))) (fun w H => St.pick H (ks := [3, 4, 0, 1]) (by decide) rfl) ?_
      rintro i hp
      refine VC_seq ?_
      refine VC_seq ?_
      refine VC_region ?_
      refine vl_v (q_move rfl) rfl ?_
      refine vl_v (q_move rfl) rfl ?_
      first | (refine vl_v (q_lss_n Try.underlying3 rfl rfl) rfl ?_) | (refine vl_v (q_lss_k Try.underlying3 rfl rfl) rfl ?_)
      refine vl_nil ?_
      refine (th_n ?_)
      refine VC_cond rfl (fun ht40 => ?_) (fun ht40 => ?_)
      · skip
        have ht40 := of_decide_eq_true ht40
        refine VC_skip ?_
        refine (th_n ?_)
        refine VC_seq ?_
        refine VC_block ?_
        refine VC_region ?_
        refine vl_v (q_move rfl) rfl ?_
        refine l_callE Try.func10 rfl rfl rfl (fun w1 H1 => skey_calls _ s x27.2 i (by omega) (by omega) w1 H1) rfl ?_
        refine vl_nil ?_
        refine (bl_n (th_n ?_))
        refine VC_region ?_
        refine vl_v (q_move rfl) rfl ?_
        first | (refine vl_v (q_add_n (q := 1) rfl rfl (by omega)) rfl ?_) | (refine vl_v (q_add_i rfl rfl (by omega) (by omega)) rfl ?_)
        refine vl_v (q_assign rfl) rfl ?_
        refine vl_nil ?_
        refine (th_n ?_)
        refine ⟨i + 1, by omega, by omega, (Sub.cons (s := 0) rfl (Sub.cons (s := 1) rfl (Sub.cons (s := 5) rfl (Sub.cons (s := 6) rfl (Sub.cons (s := 7) rfl (Sub.cons (s := 8) rfl (Sub.nil _))))))), fun w H => H⟩
      · skip
        have ht40 := of_decide_eq_false ht40
        obtain rfl : i = n := by omega
        refine VC_exit ?_
        refine (th_x (th_x (bl_xs (th_n ?_))))
        refine VC_seq ?_
        refine VC_seq ?_
        refine VC_region ?_
        refine vl_v (q_assign rfl) rfl ?_
        refine vl_nil ?_
        refine (th_n ?_)
        refine VC_block ?_
        refine VC_loop (ι := Nat) (fun j => j ≤ i) (fun j => [(0, .slice B s.length c), (1, vN i), (5, .bool true), (6, vP x27.1 0), (7, vP x31.1 0), (9, vN j)]) (fun j => srcS x31.1 s x31.2 j ++ srcS x27.1 s x27.2 i) (fun j => i - j) 0 (by omega) (Sub.cons (s := 0) rfl (Sub.cons (s := 1) rfl (Sub.cons (s := 5) rfl (Sub.cons (s := 6) rfl (Sub.cons (s := 7) rfl (Sub.cons (s := 9) rfl (Sub.nil _))))))) (fun w H => St.pick H (ks := [2, 3, 0, 1]) (by decide) rfl) ?_
        rintro j hp
        refine VC_seq ?_
        refine VC_seq ?_
        refine VC_region ?_
        refine vl_v (q_move rfl) rfl ?_
        refine vl_v (q_move rfl) rfl ?_
        first | (refine vl_v (q_lss_n Try.underlying3 rfl rfl) rfl ?_) | (refine vl_v (q_lss_k Try.underlying3 rfl rfl) rfl ?_)
        refine vl_nil ?_
        refine (th_n ?_)
        refine VC_cond rfl (fun ht47 => ?_) (fun ht47 => ?_)
        · skip
          have ht47 := of_decide_eq_true ht47
          refine VC_skip ?_
          refine (th_n ?_)
          refine VC_seq ?_
          refine VC_block ?_
          refine VC_region ?_
          refine vl_v (q_move rfl) rfl ?_
          refine l_callE Try.func17 rfl rfl rfl (fun w1 H1 => spair_calls _ s x31.2 j (by omega) (by omega) w1 H1) rfl ?_
          refine vl_nil ?_
          refine (bl_n (th_n ?_))
          refine VC_region ?_
          refine vl_v (q_move rfl) rfl ?_
          first | (refine vl_v (q_add_n (q := 1) rfl rfl (by omega)) rfl ?_) | (refine vl_v (q_add_i rfl rfl (by omega) (by omega)) rfl ?_)
          refine vl_v (q_assign rfl) rfl ?_
          refine vl_nil ?_
          refine (th_n ?_)
          refine ⟨j + 1, by omega, by omega, (Sub.cons (s := 0) rfl (Sub.cons (s := 1) rfl (Sub.cons (s := 5) rfl (Sub.cons (s := 6) rfl (Sub.cons (s := 7) rfl (Sub.cons (s := 9) rfl (Sub.nil _))))))), fun w H => H⟩
        · skip
          have ht47 := of_decide_eq_false ht47
          obtain rfl : j = i := by omega
          refine VC_exit ?_
          refine (th_x (th_x (bl_xs (th_n ?_))))
          refine VC_seq ?_
          refine VC_region ?_
          refine vl_v (q_move rfl) rfl ?_
          refine l_callE Try.func17 rfl rfl rfl (fun w1 H1 => (hk2 _ _ _ (by omega) (by omega) w1 (H1.pick (ks := [2, 3, 0, 1]) (by decide) rfl)).mono fun e w' h => ⟨h.1, h.2.pick (ks := [2, 3, 0, 1]) (by decide) rfl⟩) rfl ?_
          refine l_allocA zr33 rfl ?_
          intro b10
          refine l_storeA 0 rfl rfl rfl sz33 (by first | with_reducible assumption | omega | exact lz | exact lz2 | (simp only [bys_length]; omega)) (by first | (with_reducible first | exact bys_one _ | exact u32s_one _ | exact u64s_one _ | exact i64s_one _ | exact n64s_one _ | assumption) | exact bys_one _ | exact u32s_one _ | exact u64s_one _ | exact i64s_one _ | exact one_all rfl | (refine app_one ?_ ?_ <;> first | exact bys_one _ | exact one_all rfl | (simp; done))) (by first | with_reducible assumption | omega | exact lz | exact lz2 | (simp only [bys_length]; omega)) ?_
          simp only [List.set_cons_zero, List.set_cons_succ]
          refine vl_nil ?_
          refine (th_n ?_)
          refine VC_seq ?_
          refine VC_region ?_
          refine vl_v (q_move rfl) rfl ?_
          refine l_callE Try.func10 rfl rfl rfl (fun w1 H1 => (hk1 _ _ _ (by omega) (by omega) w1 (H1.pick (ks := [1, 2, 0, 3, 4]) (by decide) rfl)).mono fun e w' h => ⟨h.1, h.2.pick (ks := [2, 0, 1, 3, 4]) (by decide) rfl⟩) rfl ?_
          refine l_allocA zr27 rfl ?_
          intro b11
          refine l_storeA 0 rfl rfl rfl sz27 (by first | with_reducible assumption | omega | exact lz | exact lz2 | (simp only [bys_length]; omega)) (by first | (with_reducible first | exact bys_one _ | exact u32s_one _ | exact u64s_one _ | exact i64s_one _ | exact n64s_one _ | assumption) | exact bys_one _ | exact u32s_one _ | exact u64s_one _ | exact i64s_one _ | exact one_all rfl | (refine app_one ?_ ?_ <;> first | exact bys_one _ | exact one_all rfl | (simp; done))) (by first | with_reducible assumption | omega | exact lz | exact lz2 | (simp only [bys_length]; omega)) ?_
          simp only [List.set_cons_zero, List.set_cons_succ]
          refine vl_nil ?_
          refine (th_n ?_)
          refine VC_seq ?_
          refine VC_region ?_
          refine vl_v (q_slcA Try.underlying27 sz5 rfl rfl rfl rfl (.inl rfl) (by omega) (by omega) (by omega) (by omega) (by (try simp only [Nat.mul_one, Nat.zero_add, Nat.zero_mul, Nat.mul_zero, Nat.add_zero]) <;> rfl)) rfl ?_
          refine vl_v (q_callV Try.func15 rfl rfl rfl (fun w1 H1 => hpc _ _ _ (by omega) (by omega) w1 (Reads.blk 0 rfl w1 H1) (by omega))) rfl ?_
          refine l_allocA zr33 rfl ?_
          intro b12
          refine l_storeA 0 rfl rfl rfl sz33 (by first | with_reducible assumption | omega | exact lz | exact lz2 | (simp only [bys_length]; omega)) (by first | (with_reducible first | exact bys_one _ | exact u32s_one _ | exact u64s_one _ | exact i64s_one _ | exact n64s_one _ | assumption) | exact bys_one _ | exact u32s_one _ | exact u64s_one _ | exact i64s_one _ | exact one_all rfl | (refine app_one ?_ ?_ <;> first | exact bys_one _ | exact one_all rfl | (simp; done))) (by first | with_reducible assumption | omega | exact lz | exact lz2 | (simp only [bys_length]; omega)) ?_
          simp only [List.set_cons_zero, List.set_cons_succ]
          refine vl_nil ?_
          refine (th_n ?_)
          refine VC_seq ?_
          refine VC_region ?_
          refine vl_v (q_move rfl) rfl ?_
          refine vl_v (q_move rfl) rfl ?_
          first | (refine vl_vg rfl (q_loads 2 Try.underlying33 rfl rfl rfl sz33 (by first | with_reducible assumption | omega | exact lz | exact lz2 | (simp only [bys_length]; omega))) rfl ?_) | (refine vl_vg rfl (q_loadsAt 2 Try.underlying33 rfl rfl rfl sz33 (by rfl) (by first | with_reducible assumption | omega | exact lz | exact lz2 | (simp only [bys_length]; omega))) rfl ?_)
          first | (refine vl_vg rfl (q_loads 0 Try.underlying33 rfl rfl rfl sz33 (by first | with_reducible assumption | omega | exact lz | exact lz2 | (simp only [bys_length]; omega))) rfl ?_) | (refine vl_vg rfl (q_loadsAt 0 Try.underlying33 rfl rfl rfl sz33 (by rfl) (by first | with_reducible assumption | omega | exact lz | exact lz2 | (simp only [bys_length]; omega))) rfl ?_)
          refine vl_vg rfl (q_eqT flat64 rfl rfl (fits_bys' lp) rfl) rfl ?_
          first | (refine vl_v (q_pickT rfl rfl) rfl ?_) | (refine vl_v (q_pickF rfl rfl) rfl ?_)
          refine vl_v (q_move rfl) rfl ?_
          refine vl_vg rfl (q_move rfl) rfl ?_
          refine vl_vg rfl (q_callV Try.func12 rfl rfl rfl (fun w1 H1 => many_calls _ s x27.2 (j + 1) w1 (H1.pick (ks := [5, 6, 0, 1, 2, 3, 4]) (by decide) rfl))) rfl ?_
          refine vl_vg rfl (q_move rfl) rfl ?_
          refine vl_vg rfl (q_callV Try.func12 rfl rfl rfl (fun w1 H1 => many_calls _ s x31.2 (j + 1) w1 (H1.pick (ks := [3, 4, 0, 1, 2, 5, 6]) (by decide) rfl))) rfl ?_
          refine vl_vg rfl (q_true (q_eql_n Try.underlying3 rfl rfl) (decide_eq_true rfl)) rfl ?_
          first | (refine vl_v (q_pickT rfl rfl) rfl ?_) | (refine vl_v (q_pickF rfl rfl) rfl ?_)
          refine vl_v (q_assign rfl) rfl ?_
          refine vl_nil ?_
          refine (th_n ?_)
          refine VC_ret ?_
          refine ⟨_, res1 rfl rfl, ?_⟩
          exact rfl
theorem keysAgain.walk (w : World) (v0 : Value) (s : List UInt8) (h0 : BsArg w v0 s) (n : Int) (h2 : (Lit.int .i64 n).wf = true) :
    Calls Try.prog 7 #[v0, .int .i64 n] w fun e w' => e = .returned (.bool true) ∧ Kept [] w w' := by
  obtain ⟨B, c, rfl, hc, _, hB⟩ := h0
  by_cases hn : n < 0
  · exact again_neg w s B c hc hB n hn
  · obtain ⟨m, rfl⟩ : ∃ m : Nat, n = (m : Int) := ⟨n.toNat, by omega⟩
    exact again_all w s B c hc hB m

namespace keysAgain
open Go.ChangeShapes Go.WideShapes Go.ChangeAt Go.RowKit
theorem own : ownKnob Try.prog.godebug = none := by kernel_rfl
theorem laidOut : laidOutB Try.prog = true := by kernel_rfl
set_option maxRecDepth 100000 in
theorem lifted (os : Os) (started : os.Started) (H : Type) (enc : TypeId × Value → H) :
    ReturnsInHanded {} Try.checked os 7 .any (Rows.keysAgainSpec.pre6 enc Try.prog Try.f7 Rows.keysAgainRow.domain false) (Rows.keysAgainSpec.post enc Try.prog Try.f7 false true false false) := by
  refine returnsInHanded_of_change (C := Try.checked) own started (by kernel_rfl) Try.func7
    (ChangeSpec.witness6 (enc := enc) (C := Try.checked) false ⟨#[], #[.slice none 0 0, .int .i64 0], []⟩ 8 (by kernel_rfl) (by kernel_rfl) (by kernel_rfl) (by kernel_rfl)) ?_
  intro W base args ds gs before hval0 hW hcnd _
  have hval : ∀ (j : Nat) t v, Try.f7.params[j]? = some t → args[j]? = some v → Value.okWide Try.prog W .any base t v := hval0
  have hW' := hW
  obtain ⟨p, q, hA0, hV, rfl, hfz, hnd⟩ := hW
  have hA : DataW.TrodAll enc Try.prog W 0 (fun _ => true) true Try.f7.params.toList args.toList ds p := hA0
  rw [Try.params7] at hA hval
  obtain ⟨v0, vs0, d0, ds0, p0, q0, hargs, rfl, rfl, h0, r0⟩ := trodAll_cons hA
  obtain ⟨v1, vs1, d1, ds1, p1, q1, rfl, rfl, rfl, h1, r1⟩ := trodAll_cons r0
  obtain ⟨rfl, rfl, rfl⟩ := trodAll_nil r1
  obtain rfl : args = #[v0, v1] := by cases args; simp_all
  obtain ⟨rfl, rfl⟩ := trodVars_none hV
  have k0 := h0
  have lt0 : ∀ x ∈ p0, x.block < W.heap.size := by obtain ⟨m, hm⟩ := k0; exact DataW.trod_lt m _ _ _ hm
  have k1 := h1
  have lt1 : ∀ x ∈ p1, x.block < W.heap.size := by obtain ⟨m, hm⟩ := k1; exact DataW.trod_lt m _ _ _ hm
  obtain ⟨l0, g0⟩ := open_bytes Try.underlying22 Try.underlying5 (by kernel_rfl) (hval 0 22 v0 rfl rfl) h0
  obtain ⟨n1, rfl, _, _, g1⟩ := open_int Try.underlying3 (hval 1 3 v1 rfl rfl) h1
  clear hA0 hval0
  refine (keysAgain.walk W v0 l0 g0 n1 g1).mono fun e W' ⟨he, hK⟩ => ?_
  subst he
  have bel := hK.below
  exact ⟨_, rfl, _, _, _, [], _, [], hW', trodAll_mk1 (shut_bool Try.underlying4 _), (trodAll_cons_mk (Below.trod laidOut (by kernel_rfl) (of_decide_eq_true (by kernel_rfl)) k0 bel lt0) (trodAll_cons_mk (Below.trod laidOut (by kernel_rfl) (of_decide_eq_true (by kernel_rfl)) k1 bel lt1) trodAll_mk0)), rfl, bel.frame _, fun h => by cases h⟩
theorem over : Rows.keysAgainRow.holds Try.pinned (OpenSpec.ofChange Rows.keysAgainSpec) :=
  OpenClaim.holds_of_wide 7 Try.f7 rfl rfl rfl rfl rfl rfl rfl ⟨rfl, rfl, rfl, rfl, rfl⟩ rfl rfl rfl rfl rfl (by kernel_rfl) Try.func7 (by kernel_rfl)
    (of_decide_eq_true (by kernel_rfl)) (by unfold Func.isWrapper; first | (rw [if_pos (by decide +kernel)]; kernel_rfl) | (rw [if_neg (by decide +kernel)]; exact ⟨rfl, rfl⟩))
    (fun os started H enc _ => lifted os started H enc)
theorem proved : Rows.KeysAgainSaid := over
end keysAgain
/-- The row. -/
theorem keysAgain_holds : Rows.KeysAgainSaid := keysAgain.proved
#print axioms keysAgain_holds
end Go.Proofs.Ytbgmejpmpfkiaaa
