/- What is done with a copy changes nothing of the store, and of another copy: the statement SkipsCopies. No condition. -/
import Derived.Test.YtngdppffcdhhlaaRows
import Derived.Test.YtngdppffcdhhlaaA11b
import Derived.Test.YtngdppffcdhhlaaVF
namespace Go.Proofs.Ytngdppffcdhhlaa
open Go.RowKit Go.PBYtngdppffcdhhlaa
set_option linter.unusedVariables false
set_option linter.unusedSimpArgs false
set_option maxRecDepth 10000

theorem kp_nil : Kp [] := ⟨good_nil, by simp⟩
theorem open_ops {H : Type} {enc : TypeId × Value → H} {w : World} {r : Reach} {b0 : Nat} {v : Value} {d : DataW H} {p : List MemPlace} (hv : Value.okWide Try.prog w r b0 37 v) (h : DataW.Trod enc Try.prog w 0 (fun _ => true) true 37 v d p) : ∃ xs, OpsV w v xs := by
  obtain ⟨vs, ⟨A, c, h1, h2, _, h3⟩, h4⟩ := open_flats (ks := opKinds) 6 Try.underlying37 (by kernel_rfl) (by kernel_rfl) (by decide) hv h
  obtain ⟨xs, rfl, hx⟩ := ops_of vs h4
  rw [List.length_map] at h1 h2
  exact ⟨xs, A, c, h1, h2, h3, hx⟩
set_option maxHeartbeats 2000000 in
theorem copies_long (w : World) (l m : List OpD) (A B : Option Addr) (c k : Nat) (hc : l.length ≤ c) (hk : m.length ≤ k) (hA : SlAt w A (opsL l)) (hB : SlAt w B (opsL m)) (hlo : ∀ x ∈ l, x.ok) (hmo : ∀ x ∈ m, x.ok) (h : 40 < l.length ∨ 40 < m.length) :
    Calls Try.prog 7 #[.slice A l.length c, .slice B m.length k] w fun e w' => e = .returned (.bool true) ∧ Kept [] w w' := by
  refine enter (n := 177) (R := fun e L => e = .returned (.bool true)) [.slice A l.length c, .slice B m.length k] Try.func7 rfl rfl rfl (St.refl w) ?_ (fun e w' L' h H => ⟨h, H.kept⟩)
  refine VC_seq ?_
  refine VC_region ?_
  refine vl_v (q_assign rfl) rfl ?_
  refine vl_nil ?_
  refine (th_n ?_)
  refine VC_seq ?_
  refine VC_region ?_
  refine vl_v (q_callV Try.func8 rfl rfl rfl (fun w1 H1 => awake11_calls w1)) rfl ?_
  refine vl_v (q_assign rfl) rfl ?_
  refine vl_nil ?_
  refine (th_n ?_)
  refine VC_seq ?_
  refine VC_region ?_
  refine l_call (F := fun v L' => ∃ bS' mm oo AA cc, v = vP bS' 0 ∧ MapOf oo (mapE []) ∧ L' = SkR bS' mm oo AA cc [] ++ []) Try.func9 rfl rfl rfl (fun w1 H1 => (new_calls w1).mono fun e w' h => ?_) rfl ?_
  · obtain ⟨bS', mm, h1, oo, AA, cc, hE, h2⟩ := h
    rw [List.append_nil] at h2
    exact ⟨_, _, h1, ⟨bS', mm, oo, AA, cc, rfl, hE, rfl⟩, (H1.join h2).perm List.perm_append_comm⟩
  rintro v L' ⟨bS, m1, o0, A0, c0, rfl, hE0, rfl⟩
  simp only [SkR, List.cons_append, List.nil_append, List.append_nil]
  refine vl_v (q_assign rfl) rfl ?_
  refine vl_nil ?_
  refine (th_n ?_)
  refine VC_seq ?_
  refine VC_seq ?_
  refine VC_region ?_
  refine vl_v (q_move rfl) rfl ?_
  refine vl_v (q_eqPN Try.underlying26 rfl rfl) rfl ?_
  refine vl_v (q_move rfl) rfl ?_
  refine vl_vg rfl (q_move rfl) rfl ?_
  refine vl_vg rfl (q_lenS Try.underlying37 rfl) rfl ?_
  refine vl_vg rfl (q_gtr_n (q := 40) Try.underlying3 rfl rfl) rfl ?_
  by_cases hs24 : 40 < l.length
  · skip
    rw [show decide (40 < l.length) = true from decide_eq_true hs24]
    first | (refine vl_v (q_pickT rfl rfl) rfl ?_) | (refine vl_v (q_pickF rfl rfl) rfl ?_)
    refine vl_v (q_move rfl) rfl ?_
    refine vl_skip rfl rfl ?_
    refine vl_skip rfl rfl ?_
    refine vl_skip rfl rfl ?_
    first | (refine vl_v (q_pickT rfl rfl) rfl ?_) | (refine vl_v (q_pickF rfl rfl) rfl ?_)
    refine vl_nil ?_
    refine (th_n ?_)
    refine VC_yes (rfl) ?_
    refine VC_seq ?_
    refine VC_region ?_
    refine vl_v (q_move rfl) rfl ?_
    refine vl_v (q_move rfl) rfl ?_
    refine vl_vg rfl (q_move rfl) rfl ?_
    refine vl_vg rfl (q_nePN Try.underlying26 rfl rfl) rfl ?_
    first | (refine vl_v (q_pickT rfl rfl) rfl ?_) | (refine vl_v (q_pickF rfl rfl) rfl ?_)
    refine vl_v (q_assign rfl) rfl ?_
    refine vl_nil ?_
    refine (th_n ?_)
    refine VC_ret ?_
    refine (th_r ?_)
    refine ⟨_, res1 rfl rfl, ?_⟩
    exact rfl
  · skip
    rw [show decide (40 < l.length) = false from decide_eq_false hs24]
    first | (refine vl_v (q_pickT rfl rfl) rfl ?_) | (refine vl_v (q_pickF rfl rfl) rfl ?_)
    refine vl_v (q_move rfl) rfl ?_
    refine vl_vg rfl (q_move rfl) rfl ?_
    refine vl_vg rfl (q_lenS Try.underlying37 rfl) rfl ?_
    refine vl_vg rfl (q_true (q_gtr_n (q := 40) Try.underlying3 rfl rfl) (decide_eq_true (by omega))) rfl ?_
    first | (refine vl_v (q_pickT rfl rfl) rfl ?_) | (refine vl_v (q_pickF rfl rfl) rfl ?_)
    refine vl_nil ?_
    refine (th_n ?_)
    refine VC_yes (rfl) ?_
    refine VC_seq ?_
    refine VC_region ?_
    refine vl_v (q_move rfl) rfl ?_
    refine vl_v (q_move rfl) rfl ?_
    refine vl_vg rfl (q_move rfl) rfl ?_
    refine vl_vg rfl (q_nePN Try.underlying26 rfl rfl) rfl ?_
    first | (refine vl_v (q_pickT rfl rfl) rfl ?_) | (refine vl_v (q_pickF rfl rfl) rfl ?_)
    refine vl_v (q_assign rfl) rfl ?_
    refine vl_nil ?_
    refine (th_n ?_)
    refine VC_ret ?_
    refine (th_r ?_)
    refine ⟨_, res1 rfl rfl, ?_⟩
    exact rfl
set_option maxHeartbeats 8000000 in
theorem copies_all (w : World) (l m : List OpD) (A B : Option Addr) (c k : Nat) (hc : l.length ≤ c) (hk : m.length ≤ k) (hA : SlAt w A (opsL l)) (hB : SlAt w B (opsL m)) (hlo : ∀ x ∈ l, x.ok) (hmo : ∀ x ∈ m, x.ok) (h1 : l.length ≤ 40) (h2 : m.length ≤ 40) :
    Calls Try.prog 7 #[.slice A l.length c, .slice B m.length k] w fun e w' => e = .returned (.bool true) ∧ Kept [] w w' := by
  have kL := fun j => putAll_kp kp_nil (ok_take hlo j)
  have kLl := putAll_kp kp_nil hlo
  have hend := take_put hlo
  refine enter (n := 177) (R := fun e L => e = .returned (.bool true)) [.slice A l.length c, .slice B m.length k] Try.func7 rfl rfl rfl (St.refl w) ?_ (fun e w' L' h H => ⟨h, H.kept⟩)
  refine VC_seq ?_
  refine VC_region ?_
  refine vl_v (q_assign rfl) rfl ?_
  refine vl_nil ?_
  refine (th_n ?_)
  refine VC_seq ?_
  refine VC_region ?_
  refine vl_v (q_callV Try.func8 rfl rfl rfl (fun w1 H1 => awake11_calls w1)) rfl ?_
  refine vl_v (q_assign rfl) rfl ?_
  refine vl_nil ?_
  refine (th_n ?_)
  refine VC_seq ?_
  refine VC_region ?_
  refine l_call (F := fun v L' => ∃ bS' mm oo AA cc, v = vP bS' 0 ∧ MapOf oo (mapE []) ∧ L' = SkR bS' mm oo AA cc [] ++ []) Try.func9 rfl rfl rfl (fun w1 H1 => (new_calls w1).mono fun e w' h => ?_) rfl ?_
  · obtain ⟨bS', mm, h1, oo, AA, cc, hE, h2⟩ := h
    rw [List.append_nil] at h2
    exact ⟨_, _, h1, ⟨bS', mm, oo, AA, cc, rfl, hE, rfl⟩, (H1.join h2).perm List.perm_append_comm⟩
  rintro v L' ⟨bS, m1, o0, A0, c0, rfl, hE0, rfl⟩
  simp only [SkR, List.cons_append, List.nil_append, List.append_nil]
  refine vl_v (q_assign rfl) rfl ?_
  refine vl_nil ?_
  refine (th_n ?_)
  refine VC_seq ?_
  refine VC_seq ?_
  refine VC_region ?_
  refine vl_v (q_move rfl) rfl ?_
  refine vl_v (q_eqPN Try.underlying26 rfl rfl) rfl ?_
  refine vl_v (q_move rfl) rfl ?_
  refine vl_vg rfl (q_move rfl) rfl ?_
  refine vl_vg rfl (q_lenS Try.underlying37 rfl) rfl ?_
  refine vl_vg rfl (q_false (q_gtr_n (q := 40) Try.underlying3 rfl rfl) (decide_eq_false (by omega))) rfl ?_
  first | (refine vl_v (q_pickT rfl rfl) rfl ?_) | (refine vl_v (q_pickF rfl rfl) rfl ?_)
  refine vl_v (q_move rfl) rfl ?_
  refine vl_vg rfl (q_move rfl) rfl ?_
  refine vl_vg rfl (q_lenS Try.underlying37 rfl) rfl ?_
  refine vl_vg rfl (q_false (q_gtr_n (q := 40) Try.underlying3 rfl rfl) (decide_eq_false (by omega))) rfl ?_
  first | (refine vl_v (q_pickT rfl rfl) rfl ?_) | (refine vl_v (q_pickF rfl rfl) rfl ?_)
  refine vl_nil ?_
  refine (th_n ?_)
  refine VC_no (rfl) ?_
  refine VC_skip ?_
  refine (th_n ?_)
  refine VC_seq ?_
  refine VC_seq ?_
  refine VC_region ?_
  refine vl_v (q_assign rfl) rfl ?_
  refine vl_nil ?_
  refine (th_n ?_)
  refine VC_block ?_
  refine VC_loop (ι := Nat × Obj × Option Addr × Nat) (fun x => x.1 ≤ l.length ∧ MapOf x.2.1 (mapE (putAll (l.take x.1) []))) (fun x => [(0, .slice A l.length c), (1, .slice B m.length k), (5, .bool true), (6, vP bS 0), (7, vN x.1)]) (fun x => SkR bS m1 x.2.1 x.2.2.1 x.2.2.2 (putAll (l.take x.1) [])) (fun x => l.length - x.1) (0, o0, A0, c0) (⟨Nat.zero_le _, hE0⟩) (Sub.cons (s := 0) rfl (Sub.cons (s := 1) rfl (Sub.cons (s := 5) rfl (Sub.cons (s := 6) rfl (Sub.cons (s := 7) rfl (Sub.nil _)))))) (fun w H => H) ?_
  rintro ⟨i, oi, Ai, ci⟩ hp
  obtain ⟨hi, hEi⟩ := hp
  have hi : i ≤ l.length := hi
  have hEi : MapOf oi (mapE (putAll (l.take i) [])) := hEi
  dsimp only
  refine VC_seq ?_
  refine VC_seq ?_
  refine VC_region ?_
  refine vl_v (q_move rfl) rfl ?_
  refine vl_v (q_move rfl) rfl ?_
  refine vl_v (q_lenS Try.underlying37 rfl) rfl ?_
  first | (refine vl_v (q_lss_n Try.underlying3 rfl rfl) rfl ?_) | (refine vl_v (q_lss_k Try.underlying3 rfl rfl) rfl ?_)
  refine vl_nil ?_
  refine (th_n ?_)
  refine VC_cond rfl (fun ht39 => ?_) (fun ht39 => ?_)
  · skip
    have ht39 := of_decide_eq_true ht39
    obtain ⟨x, hx⟩ : ∃ x, l[i]? = some x := ⟨_, List.getElem?_eq_getElem (by omega)⟩
    have hxo := hlo x (List.mem_of_getElem? hx)
    have hpt := opsL_part hlo hx
    have hxf := op_f hxo
    have hp0 := get_in hpt hxf.g0 (by omega)
    have hp1 := part_in hpt hxf.g1 (by omega)
    have hp2 := get_in hpt hxf.g2 (by omega)
    have hp3 := part_in hpt hxf.g3 (by omega)
    have lp1 : (bys x.p).length = 32 := by rw [bys_length]; exact hxo.p
    have lp3 : (bys x.k).length = 32 := by rw [bys_length]; exact hxo.k
    have htk := take_snoc hx
    refine VC_skip ?_
    refine (th_n ?_)
    refine VC_seq ?_
    refine VC_block ?_
    refine VC_drawV 16 [[], [], [], [1, 2], [3], [4], [], [], [6, 7], [8], [9], [], [], [11, 12], [13], [14], [0, 5, 10, 15]] [[], [], [], [1, 2], [1, 2, 3], [1, 2, 3, 4], [], [], [6, 7], [6, 7, 8], [6, 7, 8, 9], [], [], [11, 12], [11, 12, 13], [11, 12, 13, 14], [0, 1, 2, 3, 4, 5, 6, 7, 8, 9, 10, 11, 12, 13, 14, 15]] rfl (by kernel_rfl) ?_
    refine qv_v (q_move rfl) ?_
    refine qv_v (q_move rfl) ?_
    refine qv_v (q_move rfl) ?_
    refine qv_v (q_idxRdN (m := i) Try.underlying37 sz43 rfl rfl (by omega) (Reads.old hA) (by rw [opsL_length hlo]; omega)) ?_
    refine qv_v (q_fldRd fo43_1 (by decide) rfl rfl) ?_
    refine qv_v (q_loadsRd Try.underlying23 rfl sz23 rfl (Reads.old hA) hp1 lp1 (by omega)) ?_
    refine qv_v (q_move rfl) ?_
    refine qv_v (q_move rfl) ?_
    refine qv_v (q_idxRdN (m := i) Try.underlying37 sz43 rfl rfl (by omega) (Reads.old hA) (by rw [opsL_length hlo]; omega)) ?_
    refine qv_v (q_fldRd fo43_2 (by decide) rfl rfl) ?_
    refine qv_v (q_loadRd Try.underlying3 rfl rfl (Reads.old hA) hp2) ?_
    refine qv_v (q_move rfl) ?_
    refine qv_v (q_move rfl) ?_
    refine qv_v (q_idxRdN (m := i) Try.underlying37 sz43 rfl rfl (by omega) (Reads.old hA) (by rw [opsL_length hlo]; omega)) ?_
    refine qv_v (q_fldRd fo43_3 (by decide) rfl rfl) ?_
    refine qv_v (q_loadsRd Try.underlying23 rfl sz23 rfl (Reads.old hA) hp3 lp3 (by omega)) ?_
    refine qv_end ?_
    refine VL.keep (Sub.cons (s := 0) rfl (Sub.cons (s := 1) rfl (Sub.cons (s := 5) rfl (Sub.cons (s := 6) rfl (Sub.cons (s := 7) rfl (Sub.cons (s := 39) rfl (Sub.cons (s := 42) rfl (Sub.cons (s := 47) rfl (Sub.cons (s := 52) rfl (Sub.cons (s := 57) rfl (Sub.nil _))))))))))) ?_
    refine l_call (F := fun v L' => v = .int .i64 (putR (putAll (l.take i) []) x.ent).1 ∧ ∃ o A c, MapOf o (mapE (putR (putAll (l.take i) []) x.ent).2) ∧ L' = SkR bS m1 o A c (putR (putAll (l.take i) []) x.ent).2 ++ []) Try.func10 rfl rfl rfl (fun w1 H1 => (put_calls (b := bS) (m := m1) (o := oi) (A := Ai) (c := ci) (L := (putAll (l.take i) [])) (R := []) x.ent hxo.p hxo.k hxo.n H1 hEi (kL i).1 (kL i).2).mono fun e w' h => ?_) rfl ?_
    · obtain ⟨h1, o, A, c, hE, h2⟩ := h
      exact ⟨_, _, h1, ⟨rfl, o, A, c, hE, rfl⟩, h2⟩
    rintro v L' ⟨rfl, o6, A6, c6, hE6, rfl⟩
    simp only [SkR, List.cons_append, List.nil_append, List.append_nil]
    refine vl_nil ?_
    refine (qn_n (bl_n (th_n ?_)))
    refine VC_region ?_
    refine vl_v (q_move rfl) rfl ?_
    first | (refine vl_v (q_add_n (q := 1) rfl rfl (by omega)) rfl ?_) | (refine vl_v (q_add_i rfl rfl (by omega) (by omega)) rfl ?_)
    refine vl_v (q_assign rfl) rfl ?_
    refine vl_nil ?_
    refine (th_n ?_)
    refine ⟨(i + 1, o6, A6, c6), ⟨by show i + 1 ≤ l.length; omega, by show MapOf o6 (mapE (putAll (l.take (i + 1)) [])); rw [htk, putAll_snoc]; exact hE6⟩, by show l.length - (i + 1) < l.length - i; omega, (Sub.cons (s := 0) rfl (Sub.cons (s := 1) rfl (Sub.cons (s := 5) rfl (Sub.cons (s := 6) rfl (Sub.cons (s := 7) rfl (Sub.nil _)))))), fun w H => by show St [] _ (SkR bS m1 o6 A6 c6 (putAll (l.take (i + 1)) [])) w; rw [htk, putAll_snoc]; exact H⟩
  · skip
    have ht39 := of_decide_eq_false ht39
    obtain rfl : i = l.length := by omega
    rw [List.take_length] at hEi ⊢
    refine VC_exit ?_
    refine (th_x (th_x (bl_xs (th_n ?_))))
    refine VC_seq ?_
    obtain ⟨Ls, hLs⟩ : ∃ z, putAll l [] = z := ⟨_, rfl⟩
    rw [hLs] at hEi kLl hend ⊢
    simp only [SkR, List.cons_append, List.nil_append, List.append_nil]
    refine VC_region ?_
    refine vl_v (q_move rfl) rfl ?_
    refine vl_v (q_callV Try.func11 rfl rfl rfl (fun w1 H1 => len_calls bS Ls.length ci _ Ai w1 (Reads.blk 0 rfl w1 H1))) rfl ?_
    refine vl_v (q_assign rfl) rfl ?_
    refine vl_nil ?_
    refine (th_n ?_)
    refine VC_seq ?_
    refine VC_region ?_
    refine vl_v (q_move rfl) rfl ?_
    refine l_call (F := fun v L' => ∃ bC mC oC AC cC, v = vP bC 0 ∧ MapOf oC (mapE Ls) ∧ L' = SkR bC mC oC AC cC Ls ++ [.blk bS 49 [.map (some m1), .slice Ai Ls.length ci], .obj m1 oi, .row 51 33 (.slice Ai Ls.length ci) Ls.length (ordC Ls)]) Try.func15 rfl rfl rfl (fun w1 H1 => (copy_calls bS m1 oi Ai ci Ls hEi kLl.1 (by have := kLl.2; omega) w1 (Reads.blk 0 rfl w1 H1) (H1.get (k := 1) rfl) (Reads.row 2 rfl w1 H1)).mono fun e w' h => ?_) rfl ?_
    · obtain ⟨bC, mC, h1, oC, AC, cC, hE, h2⟩ := h
      rw [List.append_nil] at h2
      exact ⟨_, _, h1, ⟨bC, mC, oC, AC, cC, rfl, hE, rfl⟩, (H1.join h2).perm List.perm_append_comm⟩
    rintro v L' ⟨bX, mX, oX, AX, cX, rfl, hEX, rfl⟩
    simp only [SkR, List.cons_append, List.nil_append, List.append_nil]
    refine vl_v (q_assign rfl) rfl ?_
    refine vl_nil ?_
    refine (th_n ?_)
    refine VC_seq ?_
    refine VC_region ?_
    refine vl_v (q_move rfl) rfl ?_
    refine l_call (F := fun v L' => ∃ bC mC oC AC cC, v = vP bC 0 ∧ MapOf oC (mapE Ls) ∧ L' = SkR bC mC oC AC cC Ls ++ [.blk bX 49 [.map (some mX), .slice AX Ls.length cX], .obj mX oX, .row 51 33 (.slice AX Ls.length cX) Ls.length (ordC Ls), .blk bS 49 [.map (some m1), .slice Ai Ls.length ci], .obj m1 oi, .row 51 33 (.slice Ai Ls.length ci) Ls.length (ordC Ls)]) Try.func15 rfl rfl rfl (fun w1 H1 => (copy_calls bS m1 oi Ai ci Ls hEi kLl.1 (by have := kLl.2; omega) w1 (Reads.blk 3 rfl w1 H1) (H1.get (k := 4) rfl) (Reads.row 5 rfl w1 H1)).mono fun e w' h => ?_) rfl ?_
    · obtain ⟨bC, mC, h1, oC, AC, cC, hE, h2⟩ := h
      rw [List.append_nil] at h2
      exact ⟨_, _, h1, ⟨bC, mC, oC, AC, cC, rfl, hE, rfl⟩, (H1.join h2).perm List.perm_append_comm⟩
    rintro v L' ⟨bY, mY, oY, AY, cY, rfl, hEY, rfl⟩
    simp only [SkR, List.cons_append, List.nil_append, List.append_nil]
    refine vl_v (q_assign rfl) rfl ?_
    refine vl_nil ?_
    refine (th_n ?_)
    refine VC_seq ?_
    refine VC_seq ?_
    refine VC_region ?_
    refine vl_v (q_move rfl) rfl ?_
    refine vl_v (q_eqPN Try.underlying26 rfl rfl) rfl ?_
    refine vl_v (q_move rfl) rfl ?_
    refine vl_vg rfl (q_move rfl) rfl ?_
    refine vl_vg rfl (q_eqPN Try.underlying26 rfl rfl) rfl ?_
    first | (refine vl_v (q_pickT rfl rfl) rfl ?_) | (refine vl_v (q_pickF rfl rfl) rfl ?_)
    refine vl_nil ?_
    refine (th_n ?_)
    refine VC_no (rfl) ?_
    refine VC_skip ?_
    refine (th_n ?_)
    refine VC_seq ?_
    refine VC_seq ?_
    refine VC_region ?_
    refine vl_v (q_assign rfl) rfl ?_
    refine vl_nil ?_
    refine (th_n ?_)
    refine VC_block ?_
    refine VC_loop (ι := Nat × Obj × Option Addr × Nat) (fun x => x.1 ≤ m.length ∧ MapOf x.2.1 (mapE (bothAll (m.take x.1) Ls))) (fun x => [(0, .slice A l.length c), (1, .slice B m.length k), (5, .bool true), (6, vP bS 0), (8, vN Ls.length), (9, vP bX 0), (10, vP bY 0), (11, vN x.1)]) (fun x => SkR bX mX x.2.1 x.2.2.1 x.2.2.2 (bothAll (m.take x.1) Ls) ++ [.blk bY 49 [.map (some mY), .slice AY Ls.length cY], .obj mY oY, .row 51 33 (.slice AY Ls.length cY) Ls.length (ordC Ls), .blk bS 49 [.map (some m1), .slice Ai Ls.length ci], .obj m1 oi, .row 51 33 (.slice Ai Ls.length ci) Ls.length (ordC Ls)]) (fun x => m.length - x.1) (0, oX, AX, cX) (⟨Nat.zero_le _, hEX⟩) (Sub.cons (s := 0) rfl (Sub.cons (s := 1) rfl (Sub.cons (s := 5) rfl (Sub.cons (s := 6) rfl (Sub.cons (s := 8) rfl (Sub.cons (s := 9) rfl (Sub.cons (s := 10) rfl (Sub.cons (s := 11) rfl (Sub.nil _))))))))) (fun w H => St.pick H (ks := [3, 4, 5, 0, 1, 2, 6, 7, 8]) (by decide) rfl) ?_
    rintro ⟨j, oj, Aj, cj⟩ hp
    obtain ⟨hj, hEj⟩ := hp
    have hj : j ≤ m.length := hj
    have hEj : MapOf oj (mapE (bothAll (m.take j) Ls)) := hEj
    have kM := bothAll_kp kLl (ok_take hmo j)
    dsimp only
    refine VC_seq ?_
    refine VC_seq ?_
    refine VC_region ?_
    refine vl_v (q_move rfl) rfl ?_
    refine vl_v (q_move rfl) rfl ?_
    refine vl_v (q_lenS Try.underlying37 rfl) rfl ?_
    first | (refine vl_v (q_lss_n Try.underlying3 rfl rfl) rfl ?_) | (refine vl_v (q_lss_k Try.underlying3 rfl rfl) rfl ?_)
    refine vl_nil ?_
    refine (th_n ?_)
    refine VC_cond rfl (fun ht74 => ?_) (fun ht74 => ?_)
    · skip
      have ht74 := of_decide_eq_true ht74
      obtain ⟨x, hx⟩ : ∃ x, m[j]? = some x := ⟨_, List.getElem?_eq_getElem (by omega)⟩
      have hxo := hmo x (List.mem_of_getElem? hx)
      have hpt := opsL_part hmo hx
      have hxf := op_f hxo
      have hp0 := get_in hpt hxf.g0 (by omega)
      have hp1 := part_in hpt hxf.g1 (by omega)
      have hp2 := get_in hpt hxf.g2 (by omega)
      have hp3 := part_in hpt hxf.g3 (by omega)
      have lp1 : (bys x.p).length = 32 := by rw [bys_length]; exact hxo.p
      have lp3 : (bys x.k).length = 32 := by rw [bys_length]; exact hxo.k
      have htk := take_snoc hx
      refine VC_skip ?_
      refine (th_n ?_)
      refine VC_seq ?_
      refine VC_block ?_
      refine VC_seq ?_
      refine VC_region ?_
      refine vl_v (q_move rfl) rfl ?_
      refine vl_v (q_move rfl) rfl ?_
      refine vl_v (q_idxRdN (m := j) Try.underlying37 sz43 rfl rfl (by omega) (Reads.old hB) (by rw [opsL_length hmo]; omega)) rfl ?_
      refine vl_v (q_fldRd fo43_0 (by decide) rfl rfl) rfl ?_
      refine vl_v (q_loadRd Try.underlying3 rfl rfl (Reads.old hB) hp0) rfl ?_
      refine vl_v (q_eql_k (q := 2) Try.underlying3 rfl rfl) rfl ?_
      refine vl_nil ?_
      refine (th_n ?_)
      refine VC_cond rfl (fun ht82 => ?_) (fun ht82 => ?_)
      · skip
        have ht82 := of_decide_eq_true ht82
        refine VC_drawV 11 [[], [], [], [1, 2], [3], [4], [], [], [6, 7], [8], [9], [0, 5, 10]] [[], [], [], [1, 2], [1, 2, 3], [1, 2, 3, 4], [], [], [6, 7], [6, 7, 8], [6, 7, 8, 9], [0, 1, 2, 3, 4, 5, 6, 7, 8, 9, 10]] rfl (by kernel_rfl) ?_
        refine qv_v (q_move rfl) ?_
        refine qv_v (q_move rfl) ?_
        refine qv_v (q_move rfl) ?_
        refine qv_v (q_idxRdN (m := j) Try.underlying37 sz43 rfl rfl (by omega) (Reads.old hB) (by rw [opsL_length hmo]; omega)) ?_
        refine qv_v (q_fldRd fo43_1 (by decide) rfl rfl) ?_
        refine qv_v (q_loadsRd Try.underlying23 rfl sz23 rfl (Reads.old hB) hp1 lp1 (by omega)) ?_
        refine qv_v (q_move rfl) ?_
        refine qv_v (q_move rfl) ?_
        refine qv_v (q_idxRdN (m := j) Try.underlying37 sz43 rfl rfl (by omega) (Reads.old hB) (by rw [opsL_length hmo]; omega)) ?_
        refine qv_v (q_fldRd fo43_2 (by decide) rfl rfl) ?_
        refine qv_v (q_loadRd Try.underlying3 rfl rfl (Reads.old hB) hp2) ?_
        refine qv_end ?_
        refine VL.keep (Sub.cons (s := 0) rfl (Sub.cons (s := 1) rfl (Sub.cons (s := 5) rfl (Sub.cons (s := 6) rfl (Sub.cons (s := 8) rfl (Sub.cons (s := 9) rfl (Sub.cons (s := 10) rfl (Sub.cons (s := 11) rfl (Sub.cons (s := 74) rfl (Sub.cons (s := 82) rfl (Sub.cons (s := 83) rfl (Sub.cons (s := 88) rfl (Sub.cons (s := 93) rfl (Sub.nil _)))))))))))))) ?_
        refine l_call (F := fun v L' => v = .tuple #[.agg (bys (askR (bothAll (m.take j) Ls) (x.p, x.n)).1).toArray, .bool (askR (bothAll (m.take j) Ls) (x.p, x.n)).2] ∧ ∃ o A c, MapOf o (mapE (takeR (bothAll (m.take j) Ls) x.ent.key)) ∧ L' = SkR bX mX o A c (takeR (bothAll (m.take j) Ls) x.ent.key) ++ [.blk bY 49 [.map (some mY), .slice AY Ls.length cY], .obj mY oY, .row 51 33 (.slice AY Ls.length cY) Ls.length (ordC Ls), .blk bS 49 [.map (some m1), .slice Ai Ls.length ci], .obj m1 oi, .row 51 33 (.slice Ai Ls.length ci) Ls.length (ordC Ls)]) Try.func12 rfl rfl rfl (fun w1 H1 => (take_calls (b := bX) (m := mX) (o := oj) (A := Aj) (c := cj) (L := (bothAll (m.take j) Ls)) (R := [.blk bY 49 [.map (some mY), .slice AY Ls.length cY], .obj mY oY, .row 51 33 (.slice AY Ls.length cY) Ls.length (ordC Ls), .blk bS 49 [.map (some m1), .slice Ai Ls.length ci], .obj m1 oi, .row 51 33 (.slice Ai Ls.length ci) Ls.length (ordC Ls)]) x.p x.n hxo.p hxo.n H1 hEj kM.1 kM.2).mono fun e w' h => ?_) rfl ?_
        · obtain ⟨h1, o, A, c, hE, h2⟩ := h
          exact ⟨_, _, h1, ⟨rfl, o, A, c, hE, rfl⟩, h2⟩
        rintro v L' ⟨rfl, o6, A6, c6, hE6, rfl⟩
        simp only [SkR, List.cons_append, List.nil_append, List.append_nil]
        refine vl_nil ?_
        refine (qn_n (bl_n (th_n ?_)))
        refine VC_region ?_
        refine vl_v (q_move rfl) rfl ?_
        first | (refine vl_v (q_add_n (q := 1) rfl rfl (by omega)) rfl ?_) | (refine vl_v (q_add_i rfl rfl (by omega) (by omega)) rfl ?_)
        refine vl_v (q_assign rfl) rfl ?_
        refine vl_nil ?_
        refine (th_n ?_)
        refine ⟨(j + 1, o6, A6, c6), ⟨by show j + 1 ≤ m.length; omega, by show MapOf o6 (mapE (bothAll (m.take (j + 1)) Ls)); rw [htk, bothAll_snoc]; first | (rw [if_pos ht82]; exact hE6) | (rw [if_neg ht82]; exact hE6)⟩, by show m.length - (j + 1) < m.length - j; omega, (Sub.cons (s := 0) rfl (Sub.cons (s := 1) rfl (Sub.cons (s := 5) rfl (Sub.cons (s := 6) rfl (Sub.cons (s := 8) rfl (Sub.cons (s := 9) rfl (Sub.cons (s := 10) rfl (Sub.cons (s := 11) rfl (Sub.nil _))))))))), fun w H => by show St [] _ (SkR bX mX o6 A6 c6 (bothAll (m.take (j + 1)) Ls) ++ _) w; rw [htk, bothAll_snoc]; first | (rw [if_pos ht82]; exact H) | (rw [if_neg ht82]; exact H)⟩
      · skip
        have ht82 := of_decide_eq_false ht82
        refine VC_drawV 16 [[], [], [], [1, 2], [3], [4], [], [], [6, 7], [8], [9], [], [], [11, 12], [13], [14], [0, 5, 10, 15]] [[], [], [], [1, 2], [1, 2, 3], [1, 2, 3, 4], [], [], [6, 7], [6, 7, 8], [6, 7, 8, 9], [], [], [11, 12], [11, 12, 13], [11, 12, 13, 14], [0, 1, 2, 3, 4, 5, 6, 7, 8, 9, 10, 11, 12, 13, 14, 15]] rfl (by kernel_rfl) ?_
        refine qv_v (q_move rfl) ?_
        refine qv_v (q_move rfl) ?_
        refine qv_v (q_move rfl) ?_
        refine qv_v (q_idxRdN (m := j) Try.underlying37 sz43 rfl rfl (by omega) (Reads.old hB) (by rw [opsL_length hmo]; omega)) ?_
        refine qv_v (q_fldRd fo43_1 (by decide) rfl rfl) ?_
        refine qv_v (q_loadsRd Try.underlying23 rfl sz23 rfl (Reads.old hB) hp1 lp1 (by omega)) ?_
        refine qv_v (q_move rfl) ?_
        refine qv_v (q_move rfl) ?_
        refine qv_v (q_idxRdN (m := j) Try.underlying37 sz43 rfl rfl (by omega) (Reads.old hB) (by rw [opsL_length hmo]; omega)) ?_
        refine qv_v (q_fldRd fo43_2 (by decide) rfl rfl) ?_
        refine qv_v (q_loadRd Try.underlying3 rfl rfl (Reads.old hB) hp2) ?_
        refine qv_v (q_move rfl) ?_
        refine qv_v (q_move rfl) ?_
        refine qv_v (q_idxRdN (m := j) Try.underlying37 sz43 rfl rfl (by omega) (Reads.old hB) (by rw [opsL_length hmo]; omega)) ?_
        refine qv_v (q_fldRd fo43_3 (by decide) rfl rfl) ?_
        refine qv_v (q_loadsRd Try.underlying23 rfl sz23 rfl (Reads.old hB) hp3 lp3 (by omega)) ?_
        refine qv_end ?_
        refine VL.keep (Sub.cons (s := 0) rfl (Sub.cons (s := 1) rfl (Sub.cons (s := 5) rfl (Sub.cons (s := 6) rfl (Sub.cons (s := 8) rfl (Sub.cons (s := 9) rfl (Sub.cons (s := 10) rfl (Sub.cons (s := 11) rfl (Sub.cons (s := 74) rfl (Sub.cons (s := 82) rfl (Sub.cons (s := 95) rfl (Sub.cons (s := 100) rfl (Sub.cons (s := 105) rfl (Sub.cons (s := 110) rfl (Sub.nil _))))))))))))))) ?_
        refine l_call (F := fun v L' => v = .int .i64 (putR (bothAll (m.take j) Ls) x.ent).1 ∧ ∃ o A c, MapOf o (mapE (putR (bothAll (m.take j) Ls) x.ent).2) ∧ L' = SkR bX mX o A c (putR (bothAll (m.take j) Ls) x.ent).2 ++ [.blk bY 49 [.map (some mY), .slice AY Ls.length cY], .obj mY oY, .row 51 33 (.slice AY Ls.length cY) Ls.length (ordC Ls), .blk bS 49 [.map (some m1), .slice Ai Ls.length ci], .obj m1 oi, .row 51 33 (.slice Ai Ls.length ci) Ls.length (ordC Ls)]) Try.func10 rfl rfl rfl (fun w1 H1 => (put_calls (b := bX) (m := mX) (o := oj) (A := Aj) (c := cj) (L := (bothAll (m.take j) Ls)) (R := [.blk bY 49 [.map (some mY), .slice AY Ls.length cY], .obj mY oY, .row 51 33 (.slice AY Ls.length cY) Ls.length (ordC Ls), .blk bS 49 [.map (some m1), .slice Ai Ls.length ci], .obj m1 oi, .row 51 33 (.slice Ai Ls.length ci) Ls.length (ordC Ls)]) x.ent hxo.p hxo.k hxo.n H1 hEj kM.1 kM.2).mono fun e w' h => ?_) rfl ?_
        · obtain ⟨h1, o, A, c, hE, h2⟩ := h
          exact ⟨_, _, h1, ⟨rfl, o, A, c, hE, rfl⟩, h2⟩
        rintro v L' ⟨rfl, o6, A6, c6, hE6, rfl⟩
        simp only [SkR, List.cons_append, List.nil_append, List.append_nil]
        refine vl_nil ?_
        refine (qn_n (bl_n (th_n ?_)))
        refine VC_region ?_
        refine vl_v (q_move rfl) rfl ?_
        first | (refine vl_v (q_add_n (q := 1) rfl rfl (by omega)) rfl ?_) | (refine vl_v (q_add_i rfl rfl (by omega) (by omega)) rfl ?_)
        refine vl_v (q_assign rfl) rfl ?_
        refine vl_nil ?_
        refine (th_n ?_)
        refine ⟨(j + 1, o6, A6, c6), ⟨by show j + 1 ≤ m.length; omega, by show MapOf o6 (mapE (bothAll (m.take (j + 1)) Ls)); rw [htk, bothAll_snoc]; first | (rw [if_pos ht82]; exact hE6) | (rw [if_neg ht82]; exact hE6)⟩, by show m.length - (j + 1) < m.length - j; omega, (Sub.cons (s := 0) rfl (Sub.cons (s := 1) rfl (Sub.cons (s := 5) rfl (Sub.cons (s := 6) rfl (Sub.cons (s := 8) rfl (Sub.cons (s := 9) rfl (Sub.cons (s := 10) rfl (Sub.cons (s := 11) rfl (Sub.nil _))))))))), fun w H => by show St [] _ (SkR bX mX o6 A6 c6 (bothAll (m.take (j + 1)) Ls) ++ _) w; rw [htk, bothAll_snoc]; first | (rw [if_pos ht82]; exact H) | (rw [if_neg ht82]; exact H)⟩
    · skip
      have ht74 := of_decide_eq_false ht74
      refine VC_exit ?_
      refine (th_x (th_x (bl_xs (th_n ?_))))
      refine VC_seq ?_
      refine VC_seq ?_
      simp only [SkR, List.cons_append, List.nil_append, List.append_nil]
      refine VC_region ?_
      refine vl_v (q_move rfl) rfl ?_
      refine vl_v (q_callV Try.func11 rfl rfl rfl (fun w1 H1 => len_calls bS Ls.length ci _ Ai w1 (Reads.blk 6 rfl w1 H1))) rfl ?_
      refine vl_v (q_move rfl) rfl ?_
      refine vl_v (q_as (v := .bool false) (q_neq_n Try.underlying3 rfl rfl) (by rw [decide_eq_true rfl]; rfl)) rfl ?_
      refine vl_v (q_move rfl) rfl ?_
      refine vl_vg rfl (q_move rfl) rfl ?_
      refine vl_vg rfl (q_callV Try.func11 rfl rfl rfl (fun w1 H1 => len_calls bY Ls.length cY _ AY w1 (Reads.blk 3 rfl w1 H1))) rfl ?_
      refine vl_vg rfl (q_move rfl) rfl ?_
      refine vl_vg rfl (q_as (v := .bool false) (q_neq_n Try.underlying3 rfl rfl) (by rw [decide_eq_true rfl]; rfl)) rfl ?_
      first | (refine vl_v (q_pickT rfl rfl) rfl ?_) | (refine vl_v (q_pickF rfl rfl) rfl ?_)
      refine vl_nil ?_
      refine (th_n ?_)
      refine VC_no (rfl) ?_
      refine VC_skip ?_
      refine (th_n ?_)
      refine VC_seq ?_
      refine VC_seq ?_
      refine VC_region ?_
      refine vl_v (q_assign rfl) rfl ?_
      refine vl_nil ?_
      refine (th_n ?_)
      refine VC_block ?_
      refine VC_loop (ι := Nat × Obj × Option Addr × Nat × Obj × Option Addr × Nat) (fun x => x.1 ≤ l.length ∧ MapOf x.2.1 (mapE (takeAll (l.take x.1) Ls)) ∧ MapOf x.2.2.2.2.1 (mapE (takeAll (l.take x.1) Ls))) (fun x => [(0, .slice A l.length c), (1, .slice B m.length k), (5, .bool true), (6, vP bS 0), (10, vP bY 0), (12, vN x.1)]) (fun x => SkR bS m1 x.2.1 x.2.2.1 x.2.2.2.1 (takeAll (l.take x.1) Ls) ++ SkR bY mY x.2.2.2.2.1 x.2.2.2.2.2.1 x.2.2.2.2.2.2 (takeAll (l.take x.1) Ls)) (fun x => l.length - x.1) (0, oi, Ai, ci, oY, AY, cY) (⟨Nat.zero_le _, hEi, hEY⟩) (Sub.cons (s := 0) rfl (Sub.cons (s := 1) rfl (Sub.cons (s := 5) rfl (Sub.cons (s := 6) rfl (Sub.cons (s := 10) rfl (Sub.cons (s := 12) rfl (Sub.nil _))))))) (fun w H => St.pick H (ks := [6, 7, 8, 3, 4, 5]) (by decide) rfl) ?_
      rintro ⟨i, os, As, cs, oy, Ay, cy⟩ hp
      obtain ⟨hi, hEs, hEy⟩ := hp
      have hi : i ≤ l.length := hi
      have hEs : MapOf os (mapE (takeAll (l.take i) Ls)) := hEs
      have hEy : MapOf oy (mapE (takeAll (l.take i) Ls)) := hEy
      have kT := takeAll_kp kLl (ok_take hlo i)
      dsimp only
      refine VC_seq ?_
      refine VC_seq ?_
      refine VC_region ?_
      refine vl_v (q_move rfl) rfl ?_
      refine vl_v (q_move rfl) rfl ?_
      refine vl_v (q_lenS Try.underlying37 rfl) rfl ?_
      first | (refine vl_v (q_lss_n Try.underlying3 rfl rfl) rfl ?_) | (refine vl_v (q_lss_k Try.underlying3 rfl rfl) rfl ?_)
      refine vl_nil ?_
      refine (th_n ?_)
      refine VC_cond rfl (fun ht125 => ?_) (fun ht125 => ?_)
      · skip
        have ht125 := of_decide_eq_true ht125
        obtain ⟨x, hx⟩ : ∃ x, l[i]? = some x := ⟨_, List.getElem?_eq_getElem (by omega)⟩
        have hxo := hlo x (List.mem_of_getElem? hx)
        have hpt := opsL_part hlo hx
        have hxf := op_f hxo
        have hp0 := get_in hpt hxf.g0 (by omega)
        have hp1 := part_in hpt hxf.g1 (by omega)
        have hp2 := get_in hpt hxf.g2 (by omega)
        have hp3 := part_in hpt hxf.g3 (by omega)
        have lp1 : (bys x.p).length = 32 := by rw [bys_length]; exact hxo.p
        have lp3 : (bys x.k).length = 32 := by rw [bys_length]; exact hxo.k
        have htk := take_snoc hx
        obtain ⟨Lt, hLt⟩ : ∃ z, takeAll (l.take i) Ls = z := ⟨_, rfl⟩
        rw [hLt] at hEs hEy kT ⊢
        obtain ⟨ak, hak⟩ : ∃ z, askR Lt (x.p, x.n) = z := ⟨_, rfl⟩
        have lak : ak.1.length = 32 := by rw [← hak]; exact askR_length kT.1 _
        have hTs := fun (R : List Res) w1 H1 => take_calls (S := []) (w0 := w) (w := w1) (b := bS) (m := m1) (o := os) (A := As) (c := cs) (L := Lt) (R := R) x.p x.n hxo.p hxo.n H1 hEs kT.1 kT.2
        have hTy := fun (R : List Res) w1 H1 => take_calls (S := []) (w0 := w) (w := w1) (b := bY) (m := mY) (o := oy) (A := Ay) (c := cy) (L := Lt) (R := R) x.p x.n hxo.p hxo.n H1 hEy kT.1 kT.2
        rw [hak] at hTs hTy
        have lbak : (bys ak.1).length = 32 := by rw [bys_length]; exact lak
        simp only [SkR, List.cons_append, List.nil_append, List.append_nil]
        refine VC_skip ?_
        refine (th_n ?_)
        refine VC_seq ?_
        refine VC_block ?_
        refine VC_seq ?_
        refine VC_drawQ 17 6 [[], [], [], [1, 2], [3], [4], [], [], [6, 7], [8], [9], [0, 5, 10], [11], [12], [12], [], [15, 13, 11, 0, 1, 2, 3, 4, 5, 6, 7, 8, 9, 10, 12], [14, 16, 0, 1, 2, 3, 4, 5, 6, 7, 8, 9, 10, 11, 12, 13, 15]] [[], [], [], [1, 2], [1, 2, 3], [1, 2, 3, 4], [], [], [6, 7], [6, 7, 8], [6, 7, 8, 9], [0, 1, 2, 3, 4, 5, 6, 7, 8, 9, 10], [0, 1, 2, 3, 4, 5, 6, 7, 8, 9, 10, 11], [0, 1, 2, 3, 4, 5, 6, 7, 8, 9, 10, 11, 12], [0, 1, 2, 3, 4, 5, 6, 7, 8, 9, 10, 11, 12], [], [0, 1, 2, 3, 4, 5, 6, 7, 8, 9, 10, 11, 12, 13, 15], [0, 1, 2, 3, 4, 5, 6, 7, 8, 9, 10, 11, 12, 13, 14, 15, 16]] [([], [], [], [0, 1, 2, 3, 4, 5], []), ([], [], [], [0, 1, 2, 3, 4, 5], []), ([], [], [], [0, 1, 2, 3, 4, 5], []), ([1, 2], [], [], [0, 1, 2, 3, 4, 5], [1, 2]), ([1, 2, 3], [], [], [0, 1, 2, 3, 4, 5], [1, 2, 3]), ([1, 2, 3, 4], [], [], [0, 1, 2, 3, 4, 5], [1, 2, 3, 4]), ([], [], [], [0, 1, 2, 3, 4, 5], []), ([], [], [], [0, 1, 2, 3, 4, 5], []), ([6, 7], [], [], [0, 1, 2, 3, 4, 5], [6, 7]), ([6, 7, 8], [], [], [0, 1, 2, 3, 4, 5], [6, 7, 8]), ([6, 7, 8, 9], [], [], [0, 1, 2, 3, 4, 5], [6, 7, 8, 9]), ([0, 1, 2, 3, 4, 5, 6, 7, 8, 9, 10], [0, 1, 2], [], [3, 4, 5], [0, 1, 2, 3, 4, 5, 6, 7, 8, 9, 10]), ([0, 1, 2, 3, 4, 5, 6, 7, 8, 9, 10, 11], [], [], [3, 4, 5], [0, 1, 2, 3, 4, 5, 6, 7, 8, 9, 10, 11]), ([0, 1, 2, 3, 4, 5, 6, 7, 8, 9, 10, 11, 12], [], [], [3, 4, 5], [0, 1, 2, 3, 4, 5, 6, 7, 8, 9, 10, 11, 12]), ([0, 1, 2, 3, 4, 5, 6, 7, 8, 9, 10, 11, 12], [], [], [3, 4, 5], [0, 1, 2, 3, 4, 5, 6, 7, 8, 9, 10, 11, 12]), ([], [], [], [3, 4, 5], []), ([0, 1, 2, 3, 4, 5, 6, 7, 8, 9, 10, 11, 12, 13, 15], [], [15], [3, 4, 5], [0, 1, 2, 3, 4, 5, 6, 7, 8, 9, 10, 11, 12, 13])] [3, 4, 5] [0, 1, 2, 3, 4, 5, 6, 7, 8, 9, 10, 11, 12, 13, 14, 16] rfl rfl (by kernel_rfl) ?_
        refine qp_v (fun xs gs hx => q_move rfl) ?_
        refine qp_v (fun xs gs hx => q_move rfl) ?_
        refine qp_v (fun xs gs hx => q_move rfl) ?_
        refine qp_v (fun xs gs hx => q_idxRdN (m := i) Try.underlying37 sz43 rfl rfl (by omega) (Reads.old hA) (by rw [opsL_length hlo]; omega)) ?_
        refine qp_v (fun xs gs hx => q_fldRd fo43_1 (by decide) rfl rfl) ?_
        refine qp_v (fun xs gs hx => q_loadsRd Try.underlying23 rfl sz23 rfl (Reads.old hA) hp1 lp1 (by omega)) ?_
        refine qp_v (fun xs gs hx => q_move rfl) ?_
        refine qp_v (fun xs gs hx => q_move rfl) ?_
        refine qp_v (fun xs gs hx => q_idxRdN (m := i) Try.underlying37 sz43 rfl rfl (by omega) (Reads.old hA) (by rw [opsL_length hlo]; omega)) ?_
        refine qp_v (fun xs gs hx => q_fldRd fo43_2 (by decide) rfl rfl) ?_
        refine qp_v (fun xs gs hx => q_loadRd Try.underlying3 rfl rfl (Reads.old hA) hp2) ?_
        refine qp_callE (fun xs gs v g => v = .tuple #[.agg (bys ak.1).toArray, .bool ak.2] ∧ MapOf (decS (takeR Lt x.ent.key) g).1 (mapE (takeR Lt x.ent.key))) (fun xs gs v g => SkR bS m1 (decS (takeR Lt x.ent.key) g).1 (decS (takeR Lt x.ent.key) g).2.1 (decS (takeR Lt x.ent.key) g).2.2 (takeR Lt x.ent.key)) Try.func12 rfl rfl (args := fun xs gs => [vP bS 0, .agg (bys x.p).toArray, vI x.n]) (fun xs gs hx => rfl) (fun xs gs hx R w1 H1 => (hTs _ w1 H1).mono fun e w' h => (by obtain ⟨h1, o9, A9, c9, h2, h3⟩ := h; obtain ⟨g9, hg9⟩ := sk_ghost (A := A9) (c := c9) h2; have hg9 : decS (takeR Lt x.ent.key) g9 = (o9, A9, c9) := hg9; refine ⟨_, g9, h1, (by intro h; cases h), ⟨rfl, ?_⟩, ?_⟩; rw [hg9]; exact h2; rw [hg9]; exact h3)) ?_
        refine qp_v (f := fun xs gs => .tuple #[.agg (bys ak.1).toArray, .bool ak.2]) (fun xs gs hx => ?_) ?_
        · have h9 := (hx.1 rfl).1
          simp only [h9]
          first | (exact q_move rfl)
        refine qp_v (fun xs gs hx => q_ext rfl rfl) ?_
        refine qp_v (fun xs gs hx => q_ext rfl rfl) ?_
        refine qp_a (fun xs gs hx => q_alloc zr23 rfl) ?_
        refine qp_storeN (fun xs gs hx => rfl) (fun xs gs hx => hx.2.1 rfl) (fun xs gs hx => rfl) (fun xs gs hx => List.append_nil _) sz23 (fun xs gs hx => by first | with_reducible assumption | omega | (rw [bys_length, List.length_replicate]) | (show (bys (List.replicate 32 0)).length = 32; rw [bys_length, List.length_replicate])) (fun xs gs hx => by first | (with_reducible first | exact bys_one _ | exact u32s_one _ | exact u64s_one _ | exact i64s_one _ | exact n64s_one _ | assumption) | exact bys_one _ | exact u32s_one _ | exact u64s_one _ | exact i64s_one _ | exact one_all rfl | (refine app_one ?_ ?_ <;> first | exact bys_one _ | exact one_all rfl | (simp; done))) (fun xs gs hx => by first | with_reducible assumption | omega | (rw [bys_length, List.length_replicate]) | (show (bys (List.replicate 32 0)).length = 32; rw [bys_length, List.length_replicate])) ?_
        refine qp_end ?_
        intro xs gs hx
        obtain ⟨f140, ⟨b13, e13⟩, _, _⟩ := hx
        simp only [selI, ownsA, List.contains_cons, List.contains_nil, Nat.reduceBEq, Nat.reduceAdd, Bool.or_false, Bool.or_true, Bool.false_or, Bool.true_or, mask, nRow, nBlk, nRowT, tupAt_0, tupAt_1, List.append_assoc, List.nil_append, List.append_nil, List.cons_append, List.singleton_append, e13]
        obtain ⟨_, f140⟩ := f140
        obtain ⟨z1, hz1⟩ : ∃ z, decS (takeR Lt x.ent.key) (gs 11) = z := ⟨_, rfl⟩
        rw [hz1] at f140 ⊢
        have hz1 := f140
        simp only [SkR, List.cons_append, List.nil_append, List.append_nil]
        refine VL.keep (Sub.cons (s := 0) rfl (Sub.cons (s := 1) rfl (Sub.cons (s := 5) rfl (Sub.cons (s := 6) rfl (Sub.cons (s := 10) rfl (Sub.cons (s := 12) rfl (Sub.cons (s := 125) rfl (Sub.cons (s := 142) rfl (Sub.cons (s := 13) rfl (Sub.nil _)))))))))) ?_
        refine vl_v (q_assign rfl) rfl ?_
        refine vl_nil ?_
        refine (qn_n (th_n ?_))
        refine VC_seq ?_
        refine VC_drawQ 17 7 [[], [], [], [1, 2], [3], [4], [], [], [6, 7], [8], [9], [0, 5, 10], [11], [12], [12], [], [15, 13, 11, 0, 1, 2, 3, 4, 5, 6, 7, 8, 9, 10, 12], [14, 16, 0, 1, 2, 3, 4, 5, 6, 7, 8, 9, 10, 11, 12, 13, 15]] [[], [], [], [1, 2], [1, 2, 3], [1, 2, 3, 4], [], [], [6, 7], [6, 7, 8], [6, 7, 8, 9], [0, 1, 2, 3, 4, 5, 6, 7, 8, 9, 10], [0, 1, 2, 3, 4, 5, 6, 7, 8, 9, 10, 11], [0, 1, 2, 3, 4, 5, 6, 7, 8, 9, 10, 11, 12], [0, 1, 2, 3, 4, 5, 6, 7, 8, 9, 10, 11, 12], [], [0, 1, 2, 3, 4, 5, 6, 7, 8, 9, 10, 11, 12, 13, 15], [0, 1, 2, 3, 4, 5, 6, 7, 8, 9, 10, 11, 12, 13, 14, 15, 16]] [([], [], [], [0, 1, 2, 3, 4, 5, 6], []), ([], [], [], [0, 1, 2, 3, 4, 5, 6], []), ([], [], [], [0, 1, 2, 3, 4, 5, 6], []), ([1, 2], [], [], [0, 1, 2, 3, 4, 5, 6], [1, 2]), ([1, 2, 3], [], [], [0, 1, 2, 3, 4, 5, 6], [1, 2, 3]), ([1, 2, 3, 4], [], [], [0, 1, 2, 3, 4, 5, 6], [1, 2, 3, 4]), ([], [], [], [0, 1, 2, 3, 4, 5, 6], []), ([], [], [], [0, 1, 2, 3, 4, 5, 6], []), ([6, 7], [], [], [0, 1, 2, 3, 4, 5, 6], [6, 7]), ([6, 7, 8], [], [], [0, 1, 2, 3, 4, 5, 6], [6, 7, 8]), ([6, 7, 8, 9], [], [], [0, 1, 2, 3, 4, 5, 6], [6, 7, 8, 9]), ([0, 1, 2, 3, 4, 5, 6, 7, 8, 9, 10], [0, 1, 2], [], [3, 4, 5, 6], [0, 1, 2, 3, 4, 5, 6, 7, 8, 9, 10]), ([0, 1, 2, 3, 4, 5, 6, 7, 8, 9, 10, 11], [], [], [3, 4, 5, 6], [0, 1, 2, 3, 4, 5, 6, 7, 8, 9, 10, 11]), ([0, 1, 2, 3, 4, 5, 6, 7, 8, 9, 10, 11, 12], [], [], [3, 4, 5, 6], [0, 1, 2, 3, 4, 5, 6, 7, 8, 9, 10, 11, 12]), ([0, 1, 2, 3, 4, 5, 6, 7, 8, 9, 10, 11, 12], [], [], [3, 4, 5, 6], [0, 1, 2, 3, 4, 5, 6, 7, 8, 9, 10, 11, 12]), ([], [], [], [3, 4, 5, 6], []), ([0, 1, 2, 3, 4, 5, 6, 7, 8, 9, 10, 11, 12, 13, 15], [], [15], [3, 4, 5, 6], [0, 1, 2, 3, 4, 5, 6, 7, 8, 9, 10, 11, 12, 13])] [3, 4, 5, 6] [0, 1, 2, 3, 4, 5, 6, 7, 8, 9, 10, 11, 12, 13, 14, 16] rfl rfl (by kernel_rfl) ?_
        refine qp_v (fun xs gs hx => q_move rfl) ?_
        refine qp_v (fun xs gs hx => q_move rfl) ?_
        refine qp_v (fun xs gs hx => q_move rfl) ?_
        refine qp_v (fun xs gs hx => q_idxRdN (m := i) Try.underlying37 sz43 rfl rfl (by omega) (Reads.old hA) (by rw [opsL_length hlo]; omega)) ?_
        refine qp_v (fun xs gs hx => q_fldRd fo43_1 (by decide) rfl rfl) ?_
        refine qp_v (fun xs gs hx => q_loadsRd Try.underlying23 rfl sz23 rfl (Reads.old hA) hp1 lp1 (by omega)) ?_
        refine qp_v (fun xs gs hx => q_move rfl) ?_
        refine qp_v (fun xs gs hx => q_move rfl) ?_
        refine qp_v (fun xs gs hx => q_idxRdN (m := i) Try.underlying37 sz43 rfl rfl (by omega) (Reads.old hA) (by rw [opsL_length hlo]; omega)) ?_
        refine qp_v (fun xs gs hx => q_fldRd fo43_2 (by decide) rfl rfl) ?_
        refine qp_v (fun xs gs hx => q_loadRd Try.underlying3 rfl rfl (Reads.old hA) hp2) ?_
        refine qp_callE (fun xs gs v g => v = .tuple #[.agg (bys ak.1).toArray, .bool ak.2] ∧ MapOf (decS (takeR Lt x.ent.key) g).1 (mapE (takeR Lt x.ent.key))) (fun xs gs v g => SkR bY mY (decS (takeR Lt x.ent.key) g).1 (decS (takeR Lt x.ent.key) g).2.1 (decS (takeR Lt x.ent.key) g).2.2 (takeR Lt x.ent.key)) Try.func12 rfl rfl (args := fun xs gs => [vP bY 0, .agg (bys x.p).toArray, vI x.n]) (fun xs gs hx => rfl) (fun xs gs hx R w1 H1 => (hTy _ w1 H1).mono fun e w' h => (by obtain ⟨h1, o9, A9, c9, h2, h3⟩ := h; obtain ⟨g9, hg9⟩ := sk_ghost (A := A9) (c := c9) h2; have hg9 : decS (takeR Lt x.ent.key) g9 = (o9, A9, c9) := hg9; refine ⟨_, g9, h1, (by intro h; cases h), ⟨rfl, ?_⟩, ?_⟩; rw [hg9]; exact h2; rw [hg9]; exact h3)) ?_
        refine qp_v (f := fun xs gs => .tuple #[.agg (bys ak.1).toArray, .bool ak.2]) (fun xs gs hx => ?_) ?_
        · have h9 := (hx.1 rfl).1
          simp only [h9]
          first | (exact q_move rfl)
        refine qp_v (fun xs gs hx => q_ext rfl rfl) ?_
        refine qp_v (fun xs gs hx => q_ext rfl rfl) ?_
        refine qp_a (fun xs gs hx => q_alloc zr23 rfl) ?_
        refine qp_storeN (fun xs gs hx => rfl) (fun xs gs hx => hx.2.1 rfl) (fun xs gs hx => rfl) (fun xs gs hx => List.append_nil _) sz23 (fun xs gs hx => by first | with_reducible assumption | omega | (rw [bys_length, List.length_replicate]) | (show (bys (List.replicate 32 0)).length = 32; rw [bys_length, List.length_replicate])) (fun xs gs hx => by first | (with_reducible first | exact bys_one _ | exact u32s_one _ | exact u64s_one _ | exact i64s_one _ | exact n64s_one _ | assumption) | exact bys_one _ | exact u32s_one _ | exact u64s_one _ | exact i64s_one _ | exact one_all rfl | (refine app_one ?_ ?_ <;> first | exact bys_one _ | exact one_all rfl | (simp; done))) (fun xs gs hx => by first | with_reducible assumption | omega | (rw [bys_length, List.length_replicate]) | (show (bys (List.replicate 32 0)).length = 32; rw [bys_length, List.length_replicate])) ?_
        refine qp_end ?_
        intro xs gs hx
        obtain ⟨f155, ⟨b15, e15⟩, _, _⟩ := hx
        simp only [selI, ownsA, List.contains_cons, List.contains_nil, Nat.reduceBEq, Nat.reduceAdd, Bool.or_false, Bool.or_true, Bool.false_or, Bool.true_or, mask, nRow, nBlk, nRowT, tupAt_0, tupAt_1, List.append_assoc, List.nil_append, List.append_nil, List.cons_append, List.singleton_append, e15]
        obtain ⟨_, f155⟩ := f155
        obtain ⟨z2, hz2⟩ : ∃ z, decS (takeR Lt x.ent.key) (gs 11) = z := ⟨_, rfl⟩
        rw [hz2] at f155 ⊢
        have hz2 := f155
        simp only [SkR, List.cons_append, List.nil_append, List.append_nil]
        refine VL.keep (Sub.cons (s := 0) rfl (Sub.cons (s := 1) rfl (Sub.cons (s := 5) rfl (Sub.cons (s := 6) rfl (Sub.cons (s := 10) rfl (Sub.cons (s := 12) rfl (Sub.cons (s := 125) rfl (Sub.cons (s := 13) rfl (Sub.cons (s := 14) rfl (Sub.cons (s := 157) rfl (Sub.cons (s := 15) rfl (Sub.nil _)))))))))))) ?_
        refine vl_v (q_assign rfl) rfl ?_
        refine vl_nil ?_
        refine (qn_n (th_n ?_))
        refine VC_seq ?_
        refine VC_region ?_
        first | (refine vl_v (q_loads 3 Try.underlying23 rfl rfl rfl sz23 (by first | with_reducible assumption | omega | (rw [bys_length, List.length_replicate]) | (show (bys (List.replicate 32 0)).length = 32; rw [bys_length, List.length_replicate]))) rfl ?_) | (refine vl_v (q_loadsAt 3 Try.underlying23 rfl rfl rfl sz23 (by rfl) (by first | with_reducible assumption | omega | (rw [bys_length, List.length_replicate]) | (show (bys (List.replicate 32 0)).length = 32; rw [bys_length, List.length_replicate]))) rfl ?_)
        first | (refine vl_v (q_loads 7 Try.underlying23 rfl rfl rfl sz23 (by first | with_reducible assumption | omega | (rw [bys_length, List.length_replicate]) | (show (bys (List.replicate 32 0)).length = 32; rw [bys_length, List.length_replicate]))) rfl ?_) | (refine vl_v (q_loadsAt 7 Try.underlying23 rfl rfl rfl sz23 (by rfl) (by first | with_reducible assumption | omega | (rw [bys_length, List.length_replicate]) | (show (bys (List.replicate 32 0)).length = 32; rw [bys_length, List.length_replicate]))) rfl ?_)
        refine vl_v (q_as (v := .bool false) (q_neB flatKey rfl rfl (fits_bys' lak) (fits_bys' lak)) (by rw [decide_eq_true rfl]; rfl)) rfl ?_
        refine vl_v (q_move rfl) rfl ?_
        refine vl_vg rfl (q_move rfl) rfl ?_
        refine vl_vg rfl (q_move rfl) rfl ?_
        refine vl_vg rfl (q_as (v := .bool false) (q_neBo Try.underlying4 rfl rfl) (by simp)) rfl ?_
        first | (refine vl_v (q_pickT rfl rfl) rfl ?_) | (refine vl_v (q_pickF rfl rfl) rfl ?_)
        refine vl_nil ?_
        refine (th_n ?_)
        refine VC_no (rfl) ?_
        refine VC_skip ?_
        refine (bl_n (th_n ?_))
        refine VC_region ?_
        refine vl_v (q_move rfl) rfl ?_
        first | (refine vl_v (q_add_n (q := 1) rfl rfl (by omega)) rfl ?_) | (refine vl_v (q_add_i rfl rfl (by omega) (by omega)) rfl ?_)
        refine vl_v (q_assign rfl) rfl ?_
        refine vl_nil ?_
        refine (th_n ?_)
        refine ⟨(i + 1, z1.1, z1.2.1, z1.2.2, z2.1, z2.2.1, z2.2.2), ⟨by show i + 1 ≤ l.length; omega, by show MapOf z1.1 (mapE (takeAll (l.take (i + 1)) Ls)); rw [htk, takeAll_snoc, hLt]; exact hz1, by show MapOf z2.1 (mapE (takeAll (l.take (i + 1)) Ls)); rw [htk, takeAll_snoc, hLt]; exact hz2⟩, by show l.length - (i + 1) < l.length - i; omega, (Sub.cons (s := 0) rfl (Sub.cons (s := 1) rfl (Sub.cons (s := 5) rfl (Sub.cons (s := 6) rfl (Sub.cons (s := 10) rfl (Sub.cons (s := 12) rfl (Sub.nil _))))))), fun w H => by show St [] _ (SkR bS m1 z1.1 z1.2.1 z1.2.2 (takeAll (l.take (i + 1)) Ls) ++ SkR bY mY z2.1 z2.2.1 z2.2.2 (takeAll (l.take (i + 1)) Ls)) w; rw [htk, takeAll_snoc, hLt]; exact St.pick H (ks := [0, 1, 2, 4, 5, 6]) (by decide) rfl⟩
      · skip
        have ht125 := of_decide_eq_false ht125
        obtain rfl : i = l.length := by omega
        rw [List.take_length, hend] at hEs hEy ⊢
        simp only [SkR, List.cons_append, List.nil_append, List.append_nil]
        refine VC_exit ?_
        refine (th_x (th_x (bl_xs (th_n ?_))))
        refine VC_seq ?_
        refine VC_region ?_
        refine vl_v (q_move rfl) rfl ?_
        refine vl_v (q_move rfl) rfl ?_
        refine vl_vg rfl (q_move rfl) rfl ?_
        refine vl_vg rfl (q_callV Try.func11 rfl rfl rfl (fun w1 H1 => len_calls bS 0 _ _ _ w1 (Reads.blk 0 rfl w1 H1))) rfl ?_
        refine vl_vg rfl (q_true (q_eql_n (q := 0) Try.underlying3 rfl rfl) (decide_eq_true rfl)) rfl ?_
        first | (refine vl_v (q_pickT rfl rfl) rfl ?_) | (refine vl_v (q_pickF rfl rfl) rfl ?_)
        refine vl_v (q_move rfl) rfl ?_
        refine vl_vg rfl (q_move rfl) rfl ?_
        refine vl_vg rfl (q_callV Try.func11 rfl rfl rfl (fun w1 H1 => len_calls bY 0 _ _ _ w1 (Reads.blk 3 rfl w1 H1))) rfl ?_
        refine vl_vg rfl (q_true (q_eql_n (q := 0) Try.underlying3 rfl rfl) (decide_eq_true rfl)) rfl ?_
        first | (refine vl_v (q_pickT rfl rfl) rfl ?_) | (refine vl_v (q_pickF rfl rfl) rfl ?_)
        refine vl_v (q_assign rfl) rfl ?_
        refine vl_nil ?_
        refine (th_n ?_)
        refine VC_ret ?_
        refine ⟨_, res1 rfl rfl, ?_⟩
        exact rfl
theorem skipsCopies.walk (w : World) (v0 : Value) (l : List OpD) (h0 : OpsV w v0 l) (v1 : Value) (m : List OpD) (h1 : OpsV w v1 m) :
    Calls Try.prog 7 #[v0, v1] w fun e w' => e = .returned (.bool true) ∧ Kept [] w w' := by
  obtain ⟨A, c, rfl, hc, hA, hlo⟩ := h0
  obtain ⟨B, k, rfl, hk, hB, hmo⟩ := h1
  by_cases h : 40 < l.length ∨ 40 < m.length
  · exact copies_long w l m A B c k hc hk hA hB hlo hmo h
  · exact copies_all w l m A B c k hc hk hA hB hlo hmo (by omega) (by omega)

namespace skipsCopies
open Go.ChangeShapes Go.WideShapes Go.ChangeAt Go.RowKit
theorem own : ownKnob Try.prog.godebug = none := by kernel_rfl
theorem laidOut : laidOutB Try.prog = true := by kernel_rfl
set_option maxRecDepth 100000 in
theorem lifted (os : Os) (started : os.Started) (H : Type) (enc : TypeId × Value → H) :
    ReturnsInHanded {} Try.checked os 7 .any (Rows.skipsCopiesSpec.pre6 enc Try.prog Try.f7 Rows.skipsCopiesRow.domain false) (Rows.skipsCopiesSpec.post enc Try.prog Try.f7 false true false false) := by
  refine returnsInHanded_of_change (C := Try.checked) own started (by kernel_rfl) Try.func7
    (ChangeSpec.witness6 (enc := enc) (C := Try.checked) false ⟨#[], #[(.slice none 0 0), (.slice none 0 0)], []⟩ 8 (by kernel_rfl) (by kernel_rfl) (by kernel_rfl) (by kernel_rfl)) ?_
  intro W base args ds gs before hval0 hW hcnd _
  have hval : ∀ (j : Nat) t v, Try.f7.params[j]? = some t → args[j]? = some v → Value.okWide Try.prog W .any base t v := hval0
  have hW' := hW
  obtain ⟨p, q, hA0, hV, rfl, hfz, hnd⟩ := hW
  have hA : DataW.TrodAll enc Try.prog W 0 (fun _ => true) true Try.f7.params.toList args.toList ds p := hA0
  rw [Try.params7] at hA hval
  obtain ⟨v0, vs0, d0, ds0, p0, q0, hargs, rfl, rfl, h0, r0⟩ := trodAll_cons hA
  obtain ⟨v1, vs1, d1, ds1, p1, q1, rfl, rfl, rfl, h1, r1⟩ := trodAll_cons r0
  obtain ⟨rfl, rfl, rfl⟩ := trodAll_nil r1
  obtain rfl : args = #[v0, v1] := by cases args; simp_all
  obtain ⟨rfl, rfl⟩ := trodVars_none hV
  have k0 := h0
  have lt0 : ∀ x ∈ p0, x.block < W.heap.size := by obtain ⟨m, hm⟩ := k0; exact DataW.trod_lt m _ _ _ hm
  have k1 := h1
  have lt1 : ∀ x ∈ p1, x.block < W.heap.size := by obtain ⟨m, hm⟩ := k1; exact DataW.trod_lt m _ _ _ hm
  obtain ⟨l0, g0⟩ := open_ops (hval 0 37 v0 rfl rfl) h0
  obtain ⟨l1, g1⟩ := open_ops (hval 1 37 v1 rfl rfl) h1
  clear hA0 hval0
  refine (skipsCopies.walk W v0 l0 g0 v1 l1 g1).mono fun e W' ⟨he, hK⟩ => ?_
  subst he
  have bel := hK.below
  exact ⟨_, rfl, _, _, _, [], _, [], hW', trodAll_mk1 (shut_bool Try.underlying4 _), (trodAll_cons_mk (Below.trod laidOut (by kernel_rfl) (of_decide_eq_true (by kernel_rfl)) k0 bel lt0) (trodAll_cons_mk (Below.trod laidOut (by kernel_rfl) (of_decide_eq_true (by kernel_rfl)) k1 bel lt1) trodAll_mk0)), rfl, bel.frame _, fun h => by cases h⟩
theorem over : Rows.skipsCopiesRow.holds Try.pinned (OpenSpec.ofChange Rows.skipsCopiesSpec) :=
  OpenClaim.holds_of_wide 7 Try.f7 rfl rfl rfl rfl rfl rfl rfl ⟨rfl, rfl, rfl, rfl, rfl⟩ rfl rfl rfl rfl rfl (by kernel_rfl) Try.func7 (by kernel_rfl)
    (of_decide_eq_true (by kernel_rfl)) (by unfold Func.isWrapper; first | (rw [if_pos (by decide +kernel)]; kernel_rfl) | (rw [if_neg (by decide +kernel)]; exact ⟨rfl, rfl⟩))
    (fun os started H enc _ => lifted os started H enc)
theorem proved : Rows.SkipsCopiesSaid := over
end skipsCopies
/-- The row. -/
theorem skipsCopies_holds : Rows.SkipsCopiesSaid := skipsCopies.proved
#print axioms skipsCopies_holds
end Go.Proofs.Ytngdppffcdhhlaa
