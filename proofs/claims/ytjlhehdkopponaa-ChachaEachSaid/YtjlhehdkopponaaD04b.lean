/- What the reference's functions of chapter 4 do: a block. No condition. -/
import Derived.Test.YtjlhehdkopponaaD04
namespace Go.Proofs.Ytjlhehdkopponaa
open Go.RowKit Go.PBYtjlhehdkopponaa
set_option linter.unusedVariables false
set_option linter.unusedSimpArgs false
set_option maxRecDepth 10000

theorem rOf4 {S : List Nat} {w0 w : World} {L : List Res} {b : Nat} {T : TypeId} {l : List UInt8} (k o c r : Nat) (H : St S w0 L w) (hk : L[k]? = some (.blk b T (bys l))) (ho : o + 4 ≤ l.length) (hc : 4 ≤ c) (hl : l.length ≤ 1000) (hr : r = 4) :
    Calls Try.prog 16 #[.slice (some ⟨b, o, none⟩) r c] w fun e w' => e = .returned (.int .u64 (ofHigh ((l.drop o).take 4).reverse)) ∧ Kept [] w w' := by
  subst hr
  have e1 : ((l.drop o).take 4).length = 4 := by rw [List.length_take, List.length_drop]; omega
  have h := rofLow_calls ((l.drop o).take 4) (some ⟨b, o, none⟩) c w (by rw [← bys_take]; exact (sl_arr k o H hk).take 4) (by rw [e1]; exact hc) (by rw [e1]; omega)
  rw [e1, List.take_of_length_le (l := (l.drop o).take 4) (by rw [e1]; omega)] at h
  exact h
set_option maxHeartbeats 2000000 in
theorem rblock_calls (k nn : List UInt8) (nu : UInt32) (hk : k.length = 32) (hn : nn.length = 12) (w : World) :
    Calls Try.prog 10 #[.agg (bys k).toArray, .agg (bys nn).toArray, vU32 nu] w fun e w' => e = .returned (.agg (bys (block k nn nu)).toArray) ∧ Kept [] w w' := by
  have hv := beg_length k nn nu
  refine enter (n := 95) (R := fun e L => e = .returned (.agg (bys (block k nn nu)).toArray)) [.agg (bys k).toArray, .agg (bys nn).toArray, vU32 nu] Try.func10 rfl rfl rfl (St.refl w) ?_ (fun e w' L' h H => ⟨h, H.kept⟩)
  refine VC_seq ?_
  refine VC_region ?_
  refine l_boxA rfl rfl ?_
  intro b3
  refine l_boxA rfl rfl ?_
  intro b4
  refine l_allocA zr29 rfl ?_
  intro b6
  refine vl_nil ?_
  refine (th_n ?_)
  refine VC_seq ?_
  refine VC_region ?_
  refine l_litA (cs := u32s [UInt32.ofNat 1634760805, UInt32.ofNat 857760878, UInt32.ofNat 2036477234, UInt32.ofNat 1797285236]) Try.underlying43 in25 (by decide) rfl rfl rfl rfl (by first | exact bys_one _ | exact u32s_one _ | exact u64s_one _ | exact i64s_one _ | with_reducible assumption | exact one_all rfl | (refine app_one ?_ ?_ <;> first | exact bys_one _ | (simp; done))) rfl rfl ?_
  intro b14
  refine vl_v (q_assign rfl) rfl ?_
  refine vl_nil ?_
  refine (th_n ?_)
  refine VC_seq ?_
  refine VC_seq ?_
  refine VC_region ?_
  refine vl_v (q_assign rfl) rfl ?_
  refine vl_nil ?_
  refine (th_n ?_)
  refine VC_block ?_
  refine VC_loop (ι := Nat × Option Addr × Nat) (fun q => q.1 ≤ 8) (fun q => [(2, vU32 nu), (3, vP b3 0), (4, vP b4 0), (6, vP b6 0), (7, .slice q.2.1 (4 + q.1) q.2.2), (8, vN q.1)]) (fun q => [.row 25 1 (.slice q.2.1 (4 + q.1) q.2.2) (4 + q.1) (u32s (rkW k q.1)), .blk b6 29 (bys (List.replicate 64 0)), .blk b4 24 (bys nn), .blk b3 23 (bys k)]) (fun q => 8 - q.1) (0, some ⟨b14, 0, none⟩, 4) (by omega) (Sub.cons (s := 2) rfl (Sub.cons (s := 3) rfl (Sub.cons (s := 4) rfl (Sub.cons (s := 6) rfl (Sub.cons (s := 7) rfl (Sub.cons (s := 8) rfl (Sub.nil _))))))) (fun w H => H) ?_
  rintro ⟨i, A, c⟩ hp
  simp only at hp
  refine VC_seq ?_
  refine VC_seq ?_
  refine VC_region ?_
  refine vl_v (q_move rfl) rfl ?_
  first | (refine vl_v (q_lss_n (q := 8) Try.underlying3 rfl rfl) rfl ?_) | (refine vl_v (q_lss_k Try.underlying3 rfl rfl) rfl ?_)
  refine vl_nil ?_
  refine (th_n ?_)
  refine VC_cond rfl (fun ht16 => ?_) (fun ht16 => ?_)
  · skip
    have ht16 := of_decide_eq_true ht16
    simp only at ht16
    have hl := rkW_length k i
    refine VC_skip ?_
    refine (th_n ?_)
    refine VC_seq ?_
    refine VC_block ?_
    refine VC_region ?_
    refine vl_v (q_move rfl) rfl ?_
    refine vl_v (q_move rfl) rfl ?_
    first | (refine vl_v (q_mul_n (p := 4) rfl rfl (by omega)) rfl ?_) | (refine vl_v (q_mul_i rfl rfl (by omega) (by omega)) rfl ?_)
    refine vl_v (q_move rfl) rfl ?_
    first | (refine vl_v (q_mul_n (p := 4) rfl rfl (by omega)) rfl ?_) | (refine vl_v (q_mul_i rfl rfl (by omega) (by omega)) rfl ?_)
    first | (refine vl_v (q_add_n (q := 4) rfl rfl (by omega)) rfl ?_) | (refine vl_v (q_add_i rfl rfl (by omega) (by omega)) rfl ?_)
    refine vl_v (q_slcA Try.underlying23 sz5 rfl ⟨_, rfl⟩ ⟨_, rfl⟩ rfl (.inl rfl) (by omega) (by omega) (by omega) (by omega) (by (try simp only [Nat.mul_one, Nat.zero_add, Nat.zero_mul, Nat.mul_zero, Nat.add_zero]) <;> rfl)) rfl ?_
    refine vl_v (q_callV Try.func16 rfl rfl rfl (fun w1 H1 => rOf4 3 (4 * i) _ _ H1 rfl (by omega) (by omega) (by omega) (by omega))) rfl ?_
    refine vl_v (q_conv_nu32 Try.underlying42 Try.underlying25 rfl) rfl ?_
    refine l_litA (cs := u32s [_]) Try.underlying43 in25 (by decide) rfl rfl rfl rfl (by first | exact bys_one _ | exact u32s_one _ | exact u64s_one _ | exact i64s_one _ | with_reducible assumption | exact one_all rfl | (refine app_one ?_ ?_ <;> first | exact bys_one _ | (simp; done))) rfl rfl ?_
    intro b28
    refine l_append 1 rfl rfl rfl Try.underlying43 Try.underlying43 in25 rfl (by decide) (Reads.row 0 rfl) (by first | omega | with_reducible assumption | (simp only [List.length_set, List.length_replicate, List.length_map, List.length_append, bys_length, u32s_length, u64s_length, i64s_length, List.length_take, List.length_drop, List.length_cons, List.length_nil, *] <;> first | done | omega) | rfl) (by first | exact bys_one _ | exact u32s_one _ | exact u64s_one _ | exact i64s_one _ | with_reducible assumption | exact one_all rfl | (refine app_one ?_ ?_ <;> first | exact bys_one _ | (simp; done))) (by first | omega | with_reducible assumption | (simp only [List.length_set, List.length_replicate, List.length_map, List.length_append, bys_length, u32s_length, u64s_length, i64s_length, List.length_take, List.length_drop, List.length_cons, List.length_nil, *] <;> first | done | omega) | rfl) (by first | omega | with_reducible assumption | (simp only [List.length_set, List.length_replicate, List.length_map, List.length_append, bys_length, u32s_length, u64s_length, i64s_length, List.length_take, List.length_drop, List.length_cons, List.length_nil, *] <;> first | done | omega) | rfl) rfl ?_
    intro A29 c29 hc29
    simp only [List.set_cons_zero, List.set_cons_succ, ← bys_append, ← u32s_append, ← u64s_append, ← i64s_append, List.nil_append, Nat.zero_add]
    refine vl_v (q_assign rfl) rfl ?_
    refine vl_nil ?_
    refine (bl_n (th_n ?_))
    refine VC_region ?_
    refine vl_v (q_move rfl) rfl ?_
    first | (refine vl_v (q_add_n (q := 1) rfl rfl (by omega)) rfl ?_) | (refine vl_v (q_add_i rfl rfl (by omega) (by omega)) rfl ?_)
    refine vl_v (q_assign rfl) rfl ?_
    refine vl_nil ?_
    refine (th_n ?_)
    refine ⟨(i + 1, A29, c29), by simp only; omega, by simp only; omega, (Sub.cons (s := 2) rfl (Sub.cons (s := 3) rfl (Sub.cons (s := 4) rfl (Sub.cons (s := 6) rfl (Sub.cons (s := 7) rfl (Sub.cons (s := 8) rfl (Sub.nil _))))))), fun w H => St.pick H (ks := [1, 2, 3, 4]) (by decide) rfl⟩
  · skip
    have ht16 := of_decide_eq_false ht16
    simp only at ht16
    obtain rfl : i = 8 := by omega
    have hl := rkW_length k 8
    refine VC_exit ?_
    refine (th_x (th_x (bl_xs (th_n ?_))))
    refine VC_seq ?_
    refine VC_region ?_
    refine vl_v (q_move rfl) rfl ?_
    refine vl_v (q_move rfl) rfl ?_
    refine l_litA (cs := u32s [_]) Try.underlying43 in25 (by decide) rfl rfl rfl rfl (by first | exact bys_one _ | exact u32s_one _ | exact u64s_one _ | exact i64s_one _ | with_reducible assumption | exact one_all rfl | (refine app_one ?_ ?_ <;> first | exact bys_one _ | (simp; done))) rfl rfl ?_
    intro b32
    refine l_append 1 rfl rfl rfl Try.underlying43 Try.underlying43 in25 rfl (by decide) (Reads.row 0 rfl) (by first | omega | with_reducible assumption | (simp only [List.length_set, List.length_replicate, List.length_map, List.length_append, bys_length, u32s_length, u64s_length, i64s_length, List.length_take, List.length_drop, List.length_cons, List.length_nil, *] <;> first | done | omega) | rfl) (by first | exact bys_one _ | exact u32s_one _ | exact u64s_one _ | exact i64s_one _ | with_reducible assumption | exact one_all rfl | (refine app_one ?_ ?_ <;> first | exact bys_one _ | (simp; done))) (by first | omega | with_reducible assumption | (simp only [List.length_set, List.length_replicate, List.length_map, List.length_append, bys_length, u32s_length, u64s_length, i64s_length, List.length_take, List.length_drop, List.length_cons, List.length_nil, *] <;> first | done | omega) | rfl) (by first | omega | with_reducible assumption | (simp only [List.length_set, List.length_replicate, List.length_map, List.length_append, bys_length, u32s_length, u64s_length, i64s_length, List.length_take, List.length_drop, List.length_cons, List.length_nil, *] <;> first | done | omega) | rfl) rfl ?_
    intro A33 c33 hc33
    simp only [List.set_cons_zero, List.set_cons_succ, ← bys_append, ← u32s_append, ← u64s_append, ← i64s_append, List.nil_append, Nat.zero_add]
    refine vl_v (q_assign rfl) rfl ?_
    refine vl_nil ?_
    refine (th_n ?_)
    refine VC_seq ?_
    refine VC_seq ?_
    refine VC_region ?_
    refine vl_v (q_assign rfl) rfl ?_
    refine vl_nil ?_
    refine (th_n ?_)
    refine VC_block ?_
    refine VC_loop (ι := Nat × Option Addr × Nat) (fun q => q.1 ≤ 3) (fun q => [(4, vP b4 0), (6, vP b6 0), (7, .slice q.2.1 (13 + q.1) q.2.2), (9, vN q.1)]) (fun q => [.row 25 1 (.slice q.2.1 (13 + q.1) q.2.2) (13 + q.1) (u32s (rnW k nn nu q.1)), .blk b6 29 (bys (List.replicate 64 0)), .blk b4 24 (bys nn)]) (fun q => 3 - q.1) (0, A33, c33) (by omega) (Sub.cons (s := 4) rfl (Sub.cons (s := 6) rfl (Sub.cons (s := 7) rfl (Sub.cons (s := 9) rfl (Sub.nil _))))) (fun w H => St.pick H (ks := [1, 2, 3]) (by decide) rfl) ?_
    rintro ⟨j, B, d⟩ hp
    simp only at hp
    refine VC_seq ?_
    refine VC_seq ?_
    refine VC_region ?_
    refine vl_v (q_move rfl) rfl ?_
    first | (refine vl_v (q_lss_n (q := 3) Try.underlying3 rfl rfl) rfl ?_) | (refine vl_v (q_lss_k Try.underlying3 rfl rfl) rfl ?_)
    refine vl_nil ?_
    refine (th_n ?_)
    refine VC_cond rfl (fun ht35 => ?_) (fun ht35 => ?_)
    · skip
      have ht35 := of_decide_eq_true ht35
      simp only at ht35
      have hl := rnW_length k nn nu j
      refine VC_skip ?_
      refine (th_n ?_)
      refine VC_seq ?_
      refine VC_block ?_
      refine VC_region ?_
      refine vl_v (q_move rfl) rfl ?_
      refine vl_v (q_move rfl) rfl ?_
      first | (refine vl_v (q_mul_n (p := 4) rfl rfl (by omega)) rfl ?_) | (refine vl_v (q_mul_i rfl rfl (by omega) (by omega)) rfl ?_)
      refine vl_v (q_move rfl) rfl ?_
      first | (refine vl_v (q_mul_n (p := 4) rfl rfl (by omega)) rfl ?_) | (refine vl_v (q_mul_i rfl rfl (by omega) (by omega)) rfl ?_)
      first | (refine vl_v (q_add_n (q := 4) rfl rfl (by omega)) rfl ?_) | (refine vl_v (q_add_i rfl rfl (by omega) (by omega)) rfl ?_)
      refine vl_v (q_slcA Try.underlying24 sz5 rfl ⟨_, rfl⟩ ⟨_, rfl⟩ rfl (.inl rfl) (by omega) (by omega) (by omega) (by omega) (by (try simp only [Nat.mul_one, Nat.zero_add, Nat.zero_mul, Nat.mul_zero, Nat.add_zero]) <;> rfl)) rfl ?_
      refine vl_v (q_callV Try.func16 rfl rfl rfl (fun w1 H1 => rOf4 2 (4 * j) _ _ H1 rfl (by omega) (by omega) (by omega) (by omega))) rfl ?_
      refine vl_v (q_conv_nu32 Try.underlying42 Try.underlying25 rfl) rfl ?_
      refine l_litA (cs := u32s [_]) Try.underlying43 in25 (by decide) rfl rfl rfl rfl (by first | exact bys_one _ | exact u32s_one _ | exact u64s_one _ | exact i64s_one _ | with_reducible assumption | exact one_all rfl | (refine app_one ?_ ?_ <;> first | exact bys_one _ | (simp; done))) rfl rfl ?_
      intro b47
      refine l_append 1 rfl rfl rfl Try.underlying43 Try.underlying43 in25 rfl (by decide) (Reads.row 0 rfl) (by first | omega | with_reducible assumption | (simp only [List.length_set, List.length_replicate, List.length_map, List.length_append, bys_length, u32s_length, u64s_length, i64s_length, List.length_take, List.length_drop, List.length_cons, List.length_nil, *] <;> first | done | omega) | rfl) (by first | exact bys_one _ | exact u32s_one _ | exact u64s_one _ | exact i64s_one _ | with_reducible assumption | exact one_all rfl | (refine app_one ?_ ?_ <;> first | exact bys_one _ | (simp; done))) (by first | omega | with_reducible assumption | (simp only [List.length_set, List.length_replicate, List.length_map, List.length_append, bys_length, u32s_length, u64s_length, i64s_length, List.length_take, List.length_drop, List.length_cons, List.length_nil, *] <;> first | done | omega) | rfl) (by first | omega | with_reducible assumption | (simp only [List.length_set, List.length_replicate, List.length_map, List.length_append, bys_length, u32s_length, u64s_length, i64s_length, List.length_take, List.length_drop, List.length_cons, List.length_nil, *] <;> first | done | omega) | rfl) rfl ?_
      intro A48 c48 hc48
      simp only [List.set_cons_zero, List.set_cons_succ, ← bys_append, ← u32s_append, ← u64s_append, ← i64s_append, List.nil_append, Nat.zero_add]
      refine vl_v (q_assign rfl) rfl ?_
      refine vl_nil ?_
      refine (bl_n (th_n ?_))
      refine VC_region ?_
      refine vl_v (q_move rfl) rfl ?_
      first | (refine vl_v (q_add_n (q := 1) rfl rfl (by omega)) rfl ?_) | (refine vl_v (q_add_i rfl rfl (by omega) (by omega)) rfl ?_)
      refine vl_v (q_assign rfl) rfl ?_
      refine vl_nil ?_
      refine (th_n ?_)
      refine ⟨(j + 1, A48, c48), by simp only; omega, by simp only; omega, (Sub.cons (s := 4) rfl (Sub.cons (s := 6) rfl (Sub.cons (s := 7) rfl (Sub.cons (s := 9) rfl (Sub.nil _))))), fun w H => St.pick H (ks := [1, 2, 3]) (by decide) rfl⟩
    · skip
      have ht35 := of_decide_eq_false ht35
      simp only at ht35
      obtain rfl : j = 3 := by omega
      rw [rnW_beg]
      refine VC_exit ?_
      refine (th_x (th_x (bl_xs (th_n ?_))))
      refine VC_seq ?_
      refine VC_region ?_
      refine l_litA (cs := u32s []) Try.underlying43 in25 (by decide) rfl rfl rfl rfl (by first | exact bys_one _ | exact u32s_one _ | exact u64s_one _ | exact i64s_one _ | with_reducible assumption | exact one_all rfl | (refine app_one ?_ ?_ <;> first | exact bys_one _ | (simp; done))) rfl rfl ?_
      intro b49
      refine vl_v (q_move rfl) rfl ?_
      refine l_append 0 rfl rfl rfl Try.underlying43 Try.underlying43 in25 rfl (by decide) (Reads.row 1 rfl) (by first | omega | with_reducible assumption | (simp only [List.length_set, List.length_replicate, List.length_map, List.length_append, bys_length, u32s_length, u64s_length, i64s_length, List.length_take, List.length_drop, List.length_cons, List.length_nil, *] <;> first | done | omega) | rfl) (by first | exact bys_one _ | exact u32s_one _ | exact u64s_one _ | exact i64s_one _ | with_reducible assumption | exact one_all rfl | (refine app_one ?_ ?_ <;> first | exact bys_one _ | (simp; done))) (by first | omega | with_reducible assumption | (simp only [List.length_set, List.length_replicate, List.length_map, List.length_append, bys_length, u32s_length, u64s_length, i64s_length, List.length_take, List.length_drop, List.length_cons, List.length_nil, *] <;> first | done | omega) | rfl) (by first | omega | with_reducible assumption | (simp only [List.length_set, List.length_replicate, List.length_map, List.length_append, bys_length, u32s_length, u64s_length, i64s_length, List.length_take, List.length_drop, List.length_cons, List.length_nil, *] <;> first | done | omega) | rfl) rfl ?_
      intro A51 c51 hc51
      simp only [List.set_cons_zero, List.set_cons_succ, ← bys_append, ← u32s_append, ← u64s_append, ← i64s_append, List.nil_append, Nat.zero_add]
      refine vl_v (q_assign rfl) rfl ?_
      refine vl_nil ?_
      refine (th_n ?_)
      refine VC_seq ?_
      refine VC_seq ?_
      refine VC_rowBlk (by omega) ?_
      intro bW more eW
      subst eW
      refine VC_region ?_
      refine vl_v (q_assign rfl) rfl ?_
      refine vl_nil ?_
      refine (th_n ?_)
      refine VC_block ?_
      refine VC_loop (ι := Nat) (fun r => r ≤ 10) (fun r => [(6, vP b6 0), (7, .slice B 16 d), (10, .slice (some ⟨bW, 0, none⟩) 16 c51), (11, vN r)]) (fun r => [.blk bW 25 (u32s (rnd (beg k nn nu) r) ++ more), .row 25 1 (.slice B 16 d) 16 (u32s (beg k nn nu)), .blk b6 29 (bys (List.replicate 64 0))]) (fun r => 10 - r) 0 (by omega) (Sub.cons (s := 6) rfl (Sub.cons (s := 7) rfl (Sub.cons (s := 10) rfl (Sub.cons (s := 11) rfl (Sub.nil _))))) (fun w H => St.pick H (ks := [0, 1, 2]) (by decide) rfl) ?_
      rintro r hp
      have hr := (rnd_length (beg k nn nu) r).trans hv
      refine VC_seq ?_
      refine VC_seq ?_
      refine VC_region ?_
      refine vl_v (q_move rfl) rfl ?_
      first | (refine vl_v (q_lss_n (q := 10) Try.underlying3 rfl rfl) rfl ?_) | (refine vl_v (q_lss_k Try.underlying3 rfl rfl) rfl ?_)
      refine vl_nil ?_
      refine (th_n ?_)
      refine VC_cond rfl (fun ht53 => ?_) (fun ht53 => ?_)
      · skip
        have ht53 := of_decide_eq_true ht53
        refine VC_skip ?_
        refine (th_n ?_)
        refine VC_seq ?_
        refine VC_block ?_
        refine VC_seq ?_
        refine VC_region ?_
        refine vl_v (q_move rfl) rfl ?_
        refine l_callE Try.func17 rfl rfl rfl (fun w1 H1 => rquarter_calls _ 0 4 8 12 bW _ hr (by omega) (by omega) (by omega) (by omega) w1 H1) rfl ?_
        refine vl_nil ?_
        refine (th_n ?_)
        refine VC_seq ?_
        refine VC_region ?_
        refine vl_v (q_move rfl) rfl ?_
        refine l_callE Try.func17 rfl rfl rfl (fun w1 H1 => rquarter_calls _ 1 5 9 13 bW _ (by simp only [quarter_length]; exact hr) (by omega) (by omega) (by omega) (by omega) w1 H1) rfl ?_
        refine vl_nil ?_
        refine (th_n ?_)
        refine VC_seq ?_
        refine VC_region ?_
        refine vl_v (q_move rfl) rfl ?_
        refine l_callE Try.func17 rfl rfl rfl (fun w1 H1 => rquarter_calls _ 2 6 10 14 bW _ (by simp only [quarter_length]; exact hr) (by omega) (by omega) (by omega) (by omega) w1 H1) rfl ?_
        refine vl_nil ?_
        refine (th_n ?_)
        refine VC_seq ?_
        refine VC_region ?_
        refine vl_v (q_move rfl) rfl ?_
        refine l_callE Try.func17 rfl rfl rfl (fun w1 H1 => rquarter_calls _ 3 7 11 15 bW _ (by simp only [quarter_length]; exact hr) (by omega) (by omega) (by omega) (by omega) w1 H1) rfl ?_
        refine vl_nil ?_
        refine (th_n ?_)
        refine VC_seq ?_
        refine VC_region ?_
        refine vl_v (q_move rfl) rfl ?_
        refine l_callE Try.func17 rfl rfl rfl (fun w1 H1 => rquarter_calls _ 0 5 10 15 bW _ (by simp only [quarter_length]; exact hr) (by omega) (by omega) (by omega) (by omega) w1 H1) rfl ?_
        refine vl_nil ?_
        refine (th_n ?_)
        refine VC_seq ?_
        refine VC_region ?_
        refine vl_v (q_move rfl) rfl ?_
        refine l_callE Try.func17 rfl rfl rfl (fun w1 H1 => rquarter_calls _ 1 6 11 12 bW _ (by simp only [quarter_length]; exact hr) (by omega) (by omega) (by omega) (by omega) w1 H1) rfl ?_
        refine vl_nil ?_
        refine (th_n ?_)
        refine VC_seq ?_
        refine VC_region ?_
        refine vl_v (q_move rfl) rfl ?_
        refine l_callE Try.func17 rfl rfl rfl (fun w1 H1 => rquarter_calls _ 2 7 8 13 bW _ (by simp only [quarter_length]; exact hr) (by omega) (by omega) (by omega) (by omega) w1 H1) rfl ?_
        refine vl_nil ?_
        refine (th_n ?_)
        refine VC_region ?_
        refine vl_v (q_move rfl) rfl ?_
        refine l_callE Try.func17 rfl rfl rfl (fun w1 H1 => rquarter_calls _ 3 4 9 14 bW _ (by simp only [quarter_length]; exact hr) (by omega) (by omega) (by omega) (by omega) w1 H1) rfl ?_
        refine vl_nil ?_
        refine (bl_n (th_n ?_))
        refine VC_region ?_
        refine vl_v (q_move rfl) rfl ?_
        first | (refine vl_v (q_add_n (q := 1) rfl rfl (by omega)) rfl ?_) | (refine vl_v (q_add_i rfl rfl (by omega) (by omega)) rfl ?_)
        refine vl_v (q_assign rfl) rfl ?_
        refine vl_nil ?_
        refine (th_n ?_)
        refine ⟨r + 1, by omega, by omega, (Sub.cons (s := 6) rfl (Sub.cons (s := 7) rfl (Sub.cons (s := 10) rfl (Sub.cons (s := 11) rfl (Sub.nil _))))), fun w H => H⟩
      · skip
        have ht53 := of_decide_eq_false ht53
        obtain rfl : r = 10 := by omega
        refine VC_exit ?_
        refine (th_x (th_x (bl_xs (th_n ?_))))
        refine VC_seq ?_
        refine VC_region ?_
        refine l_allocA zr29 rfl ?_
        intro b12
        refine vl_nil ?_
        refine (th_n ?_)
        refine VC_seq ?_
        refine VC_seq ?_
        refine VC_region ?_
        refine vl_v (q_assign rfl) rfl ?_
        refine vl_nil ?_
        refine (th_n ?_)
        refine VC_block ?_
        refine VC_loop (ι := Nat) (fun s => s ≤ 64) (fun s => [(6, vP b6 0), (7, .slice B 16 d), (10, .slice (some ⟨bW, 0, none⟩) 16 c51), (12, vP b12 0), (13, vN s)]) (fun s => [.blk b12 29 (bys (roP (beg k nn nu) (rnd (beg k nn nu) 10) s)), .blk bW 25 (u32s (rnd (beg k nn nu) 10) ++ more), .row 25 1 (.slice B 16 d) 16 (u32s (beg k nn nu)), .blk b6 29 (bys (List.replicate 64 0))]) (fun s => 64 - s) 0 (by omega) (Sub.cons (s := 6) rfl (Sub.cons (s := 7) rfl (Sub.cons (s := 10) rfl (Sub.cons (s := 12) rfl (Sub.cons (s := 13) rfl (Sub.nil _)))))) (fun w H => H) ?_
        rintro s hp
        have hro := roP_length (beg k nn nu) (rnd (beg k nn nu) 10) s
        refine VC_seq ?_
        refine VC_seq ?_
        refine VC_region ?_
        refine vl_v (q_move rfl) rfl ?_
        first | (refine vl_v (q_lss_n (q := 64) Try.underlying3 rfl rfl) rfl ?_) | (refine vl_v (q_lss_k Try.underlying3 rfl rfl) rfl ?_)
        refine vl_nil ?_
        refine (th_n ?_)
        refine VC_cond rfl (fun ht73 => ?_) (fun ht73 => ?_)
        · skip
          have ht73 := of_decide_eq_true ht73
          refine VC_skip ?_
          refine (th_n ?_)
          refine VC_seq ?_
          refine VC_block ?_
          refine VC_drawV 17 [[], [], [], [2], [1, 3], [4], [], [], [7], [6, 8], [9], [5, 10], [], [12], [13], [11, 14], [15], [0, 1, 2, 3, 4, 5, 6, 7, 8, 9, 10, 11, 12, 13, 14, 15, 16], [17, 16, 0, 1, 2, 3, 4, 5, 6, 7, 8, 9, 10, 11, 12, 13, 14, 15]] [[], [], [], [2], [1, 2, 3], [1, 2, 3, 4], [], [], [7], [6, 7, 8], [6, 7, 8, 9], [1, 2, 3, 4, 5, 6, 7, 8, 9, 10], [], [12], [12, 13], [1, 2, 3, 4, 5, 6, 7, 8, 9, 10, 11, 12, 13, 14], [1, 2, 3, 4, 5, 6, 7, 8, 9, 10, 11, 12, 13, 14, 15], [0, 1, 2, 3, 4, 5, 6, 7, 8, 9, 10, 11, 12, 13, 14, 15, 16], [0, 1, 2, 3, 4, 5, 6, 7, 8, 9, 10, 11, 12, 13, 14, 15, 16, 17]] rfl (by kernel_rfl) ?_
          refine qv_v (q_move rfl) ?_
          refine qv_v (q_move rfl) ?_
          refine qv_v (q_move rfl) ?_
          refine qv_v (q_quo_n (q := 4) rfl rfl (by omega) (by omega)) ?_
          refine qv_v (q_idxRd Try.underlying43 sz25 rfl rfl (by first | omega | with_reducible assumption | (simp only [List.length_set, List.length_replicate, List.length_map, List.length_append, bys_length, u32s_length, u64s_length, i64s_length, List.length_take, List.length_drop, List.length_cons, List.length_nil, *] <;> first | done | omega) | rfl) (Reads.row 2 rfl) (by first | omega | with_reducible assumption | (simp only [List.length_set, List.length_replicate, List.length_map, List.length_append, bys_length, u32s_length, u64s_length, i64s_length, List.length_take, List.length_drop, List.length_cons, List.length_nil, *] <;> first | done | omega) | rfl)) ?_
          refine qv_v (q_loadRd Try.underlying25 rfl rfl (Reads.row 2 rfl) (u32s_at (by first | omega | with_reducible assumption | (simp only [List.length_set, List.length_replicate, List.length_map, List.length_append, bys_length, u32s_length, u64s_length, i64s_length, List.length_take, List.length_drop, List.length_cons, List.length_nil, *] <;> first | done | omega) | rfl))) ?_
          refine qv_v (q_move rfl) ?_
          refine qv_v (q_move rfl) ?_
          refine qv_v (q_quo_n (q := 4) rfl rfl (by omega) (by omega)) ?_
          refine qv_v (q_idxS0 Try.underlying43 sz25 rfl rfl (by omega) (by rw [Nat.mul_one, Nat.zero_add])) ?_
          first | (refine qv_v (q_load 1 Try.underlying25 rfl rfl rfl (u32s_atA (by first | omega | with_reducible assumption | (simp only [List.length_set, List.length_replicate, List.length_map, List.length_append, bys_length, u32s_length, u64s_length, i64s_length, List.length_take, List.length_drop, List.length_cons, List.length_nil, *] <;> first | done | omega) | rfl))) ?_) | (refine qv_v (q_load 1 Try.underlying25 rfl rfl rfl rfl) ?_)
          refine qv_v (q_add_u32 rfl rfl) ?_
          refine qv_v (q_move rfl) ?_
          refine qv_v (q_rem_n (q := 4) rfl rfl (by omega)) ?_
          first | (refine qv_v (q_mul_n (p := 8) rfl rfl (by omega)) ?_) | (refine qv_v (q_mul_i rfl rfl (by omega) (by omega)) ?_)
          refine qv_v (q_shr_u32 rfl rfl) ?_
          refine qv_v (q_conv_nu8 Try.underlying25 Try.underlying5 rfl) ?_
          refine qv_end ?_
          refine VL.keep (Sub.cons (s := 6) rfl (Sub.cons (s := 7) rfl (Sub.cons (s := 10) rfl (Sub.cons (s := 12) rfl (Sub.cons (s := 13) rfl (Sub.cons (s := 73) rfl (Sub.cons (s := 76) rfl (Sub.cons (s := 92) rfl (Sub.nil _))))))))) ?_
          first | (refine vl_v (q_idxA Try.underlying29 sz5 rfl rfl (by omega) (r := _) (by rw [Nat.mul_one, Nat.zero_add])) rfl ?_) | (refine vl_v (q_idxA Try.underlying29 sz5 rfl rfl (by omega) rfl) rfl ?_)
          first | (refine l_stB 0 rfl rfl rfl sz5 (by first | omega | with_reducible assumption | (simp only [List.length_set, List.length_replicate, List.length_map, List.length_append, bys_length, u32s_length, u64s_length, i64s_length, List.length_take, List.length_drop, List.length_cons, List.length_nil, *] <;> first | done | omega) | rfl) ?_) | (refine l_store1 0 rfl rfl rfl sz5 rfl (by decide) ?_)
          simp only [List.set_cons_zero, List.set_cons_succ]
          refine vl_nil ?_
          refine (qn_n (bl_n (th_n ?_)))
          refine VC_region ?_
          refine vl_v (q_move rfl) rfl ?_
          first | (refine vl_v (q_add_n (q := 1) rfl rfl (by omega)) rfl ?_) | (refine vl_v (q_add_i rfl rfl (by omega) (by omega)) rfl ?_)
          refine vl_v (q_assign rfl) rfl ?_
          refine vl_nil ?_
          refine (th_n ?_)
          refine ⟨s + 1, by omega, by omega, (Sub.cons (s := 6) rfl (Sub.cons (s := 7) rfl (Sub.cons (s := 10) rfl (Sub.cons (s := 12) rfl (Sub.cons (s := 13) rfl (Sub.nil _)))))), fun w H => H⟩
        · skip
          have ht73 := of_decide_eq_false ht73
          obtain rfl : s = 64 := by omega
          rw [roP_block]
          have hbk := block_length k nn nu
          refine VC_exit ?_
          refine (th_x (th_x (bl_xs (th_n ?_))))
          refine VC_seq ?_
          refine VC_region ?_
          first | (refine vl_v (q_loads 0 Try.underlying29 rfl rfl rfl sz29 (by first | omega | with_reducible assumption | (simp only [List.length_set, List.length_replicate, List.length_map, List.length_append, bys_length, u32s_length, u64s_length, i64s_length, List.length_take, List.length_drop, List.length_cons, List.length_nil, *] <;> first | done | omega) | rfl)) rfl ?_) | (refine vl_v (q_loadsAt 0 Try.underlying29 rfl rfl rfl sz29 (by rfl) (by first | omega | with_reducible assumption | (simp only [List.length_set, List.length_replicate, List.length_map, List.length_append, bys_length, u32s_length, u64s_length, i64s_length, List.length_take, List.length_drop, List.length_cons, List.length_nil, *] <;> first | done | omega) | rfl)) rfl ?_)
          refine l_storeA 3 rfl rfl rfl sz29 (by first | omega | with_reducible assumption | (simp only [List.length_set, List.length_replicate, List.length_map, List.length_append, bys_length, u32s_length, u64s_length, i64s_length, List.length_take, List.length_drop, List.length_cons, List.length_nil, *] <;> first | done | omega) | rfl) (by first | exact bys_one _ | exact u32s_one _ | exact u64s_one _ | exact i64s_one _ | with_reducible assumption | exact one_all rfl | (refine app_one ?_ ?_ <;> first | exact bys_one _ | (simp; done))) (by first | omega | with_reducible assumption | (simp only [List.length_set, List.length_replicate, List.length_map, List.length_append, bys_length, u32s_length, u64s_length, i64s_length, List.length_take, List.length_drop, List.length_cons, List.length_nil, *] <;> first | done | omega) | rfl) ?_
          simp only [List.set_cons_zero, List.set_cons_succ]
          refine vl_nil ?_
          refine (th_n ?_)
          refine VC_ret ?_
          refine ⟨_, resC1 3 rfl Try.underlying29 rfl rfl rfl sz29 (by first | omega | with_reducible assumption | (simp only [List.length_set, List.length_replicate, List.length_map, List.length_append, bys_length, u32s_length, u64s_length, i64s_length, List.length_take, List.length_drop, List.length_cons, List.length_nil, *] <;> first | done | omega) | rfl), ?_⟩
          exact rfl
end Go.Proofs.Ytjlhehdkopponaa
