/- What the functions of package chacha do: bytes are turned. No condition. -/
import Derived.Test.YtjlhehdkopponaaC04c
namespace Go.Proofs.Ytjlhehdkopponaa
open Go.RowKit Go.PBYtjlhehdkopponaa
set_option linter.unusedVariables false
set_option linter.unusedSimpArgs false
set_option maxRecDepth 10000

theorem ofNat_succ32 (n : UInt32) (j : Nat) : n + UInt32.ofNat j + UInt32.ofNat 1 = n + UInt32.ofNat (j + 1) := by
  rw [UInt32.add_assoc]
  congr 1
  exact (UInt32.ofNat_add j 1).symm
set_option maxHeartbeats 1000000 in
theorem turn_calls (k nn : List UInt8) (nu : UInt32) (b : List UInt8) (A : Option Addr) (c : Nat) (hk : k.length = 32) (hn : nn.length = 12) (w : World) (hA : SlAt w A (bys b)) (hc : b.length ≤ c) (hb : b.length ≤ 100000) :
    Calls Try.prog 11 #[.agg (bys k).toArray, .agg (bys nn).toArray, vU32 nu, .slice A b.length c] w fun e w' => ∃ v, e = .returned v ∧ St [] w [.row 5 1 v b.length (bys (turnB k nn nu b))] w' := by
  refine enter (n := 45) (R := fun e L => ∃ v M, e = .returned v ∧ L = .row 5 1 v b.length (bys (turnB k nn nu b)) :: M) [.agg (bys k).toArray, .agg (bys nn).toArray, vU32 nu, .slice A b.length c] Try.func11 rfl rfl rfl (St.refl w) ?_ endRow
  refine VC_seq ?_
  refine VC_region ?_
  refine l_boxA rfl rfl ?_
  intro b4
  refine l_boxA rfl rfl ?_
  intro b5
  refine vl_v (q_assign rfl) rfl ?_
  refine vl_nil ?_
  refine (th_n ?_)
  refine VC_seq ?_
  refine VC_region ?_
  refine vl_v (q_move rfl) rfl ?_
  refine vl_v (q_lenS Try.underlying32 rfl) rfl ?_
  refine l_room Try.underlying32 in5 rfl rfl (by first | omega | with_reducible assumption | (simp only [List.length_set, List.length_replicate, List.length_map, List.length_append, bys_length, u32s_length, u64s_length, i64s_length, List.length_take, List.length_drop, List.length_cons, List.length_nil, *] <;> first | done | omega) | rfl) (by unfold maxLen; omega) rfl ?_
  intro v16
  refine vl_v (q_assign rfl) rfl ?_
  refine vl_nil ?_
  refine (th_n ?_)
  refine VC_seq ?_
  refine VC_block ?_
  refine VC_loop (ι := Nat × Option Addr × Nat × Value) (fun q => SlAt w q.2.1 (bys (b.drop (64 * q.1))) ∧ b.length - 64 * q.1 ≤ q.2.2.1) (fun q => [(2, vU32 (nu + UInt32.ofNat q.1)), (3, .slice q.2.1 (b.length - 64 * q.1) q.2.2.1), (4, vP b4 0), (5, vP b5 0), (9, q.2.2.2)]) (fun q => [.row 5 1 q.2.2.2 (min (64 * q.1) b.length) (bys (tb (ks k nn nu) b (min (64 * q.1) b.length))), .blk b5 24 (bys nn), .blk b4 23 (bys k)]) (fun q => b.length - 64 * q.1) (0, A, c, v16) (⟨hA, by omega⟩) (Sub.cons (s := 2) (by rw [show nu + UInt32.ofNat 0 = nu from UInt32.add_zero nu]; rfl) (Sub.cons (s := 3) rfl (Sub.cons (s := 4) rfl (Sub.cons (s := 5) rfl (Sub.cons (s := 9) rfl (Sub.nil _)))))) (fun w' H => H.pick (ks := [0, 1, 2]) (by decide) (by simp [PBYtjlhehdkopponaa.pick, tb, bys])) ?_
  rintro ⟨j, B, d, v⟩ hp
  obtain ⟨hB, hd⟩ := hp
  simp only at hB hd
  refine VC_seq ?_
  refine VC_seq ?_
  refine VC_region ?_
  refine vl_v (q_move rfl) rfl ?_
  refine vl_v (q_lenS Try.underlying32 rfl) rfl ?_
  first | (refine vl_v (q_gtr_n (q := 0) Try.underlying3 rfl rfl) rfl ?_) | (refine vl_v (q_gtr_k Try.underlying3 rfl rfl) rfl ?_)
  refine vl_nil ?_
  refine (th_n ?_)
  refine VC_cond rfl (fun ht19 => ?_) (fun ht19 => ?_)
  · skip
    have ht19 := of_decide_eq_true ht19
    have hbl := ks_length k nn nu j
    have hbk := block_length k nn (nu + UInt32.ofNat j)
    have hB2 : SlAt w (adv B (min (b.length - 64 * j) 64) d 1) (bys (b.drop (64 * (j + 1)))) := by
      have := hB.adv (l := min (b.length - 64 * j) 64) (m := d) (sz := 1) (by rw [bys_length, List.length_drop]; omega)
      rw [bys_drop, List.drop_drop, Nat.mul_one] at this
      by_cases h64 : 64 ≤ b.length - 64 * j
      · rw [show 64 * j + min (b.length - 64 * j) 64 = 64 * (j + 1) by omega] at this; exact this
      · rw [List.drop_eq_nil_of_le (by omega)] at this; rw [List.drop_eq_nil_of_le (by omega)]; exact this
    refine VC_skip ?_
    refine (th_n ?_)
    refine VC_seq ?_
    refine VC_block ?_
    refine VC_seq ?_
    refine VC_region ?_
    first | (refine vl_v (q_loads 2 Try.underlying23 rfl rfl rfl sz23 (by first | omega | with_reducible assumption | (simp only [List.length_set, List.length_replicate, List.length_map, List.length_append, bys_length, u32s_length, u64s_length, i64s_length, List.length_take, List.length_drop, List.length_cons, List.length_nil, *] <;> first | done | omega) | rfl)) rfl ?_) | (refine vl_v (q_loadsAt 2 Try.underlying23 rfl rfl rfl sz23 (by rfl) (by first | omega | with_reducible assumption | (simp only [List.length_set, List.length_replicate, List.length_map, List.length_append, bys_length, u32s_length, u64s_length, i64s_length, List.length_take, List.length_drop, List.length_cons, List.length_nil, *] <;> first | done | omega) | rfl)) rfl ?_)
    first | (refine vl_v (q_loads 1 Try.underlying24 rfl rfl rfl sz24 (by first | omega | with_reducible assumption | (simp only [List.length_set, List.length_replicate, List.length_map, List.length_append, bys_length, u32s_length, u64s_length, i64s_length, List.length_take, List.length_drop, List.length_cons, List.length_nil, *] <;> first | done | omega) | rfl)) rfl ?_) | (refine vl_v (q_loadsAt 1 Try.underlying24 rfl rfl rfl sz24 (by rfl) (by first | omega | with_reducible assumption | (simp only [List.length_set, List.length_replicate, List.length_map, List.length_append, bys_length, u32s_length, u64s_length, i64s_length, List.length_take, List.length_drop, List.length_cons, List.length_nil, *] <;> first | done | omega) | rfl)) rfl ?_)
    refine vl_v (q_move rfl) rfl ?_
    refine vl_v (q_callV Try.func9 rfl rfl rfl (fun w1 H1 => block_calls k nn (nu + UInt32.ofNat j) hk hn w1)) rfl ?_
    refine l_allocA zr29 rfl ?_
    intro b10
    refine l_storeA 0 rfl rfl rfl sz29 (by first | omega | with_reducible assumption | (simp only [List.length_set, List.length_replicate, List.length_map, List.length_append, bys_length, u32s_length, u64s_length, i64s_length, List.length_take, List.length_drop, List.length_cons, List.length_nil, *] <;> first | done | omega) | rfl) (by first | exact bys_one _ | exact u32s_one _ | exact u64s_one _ | exact i64s_one _ | with_reducible assumption | exact one_all rfl | (refine app_one ?_ ?_ <;> first | exact bys_one _ | (simp; done))) (by first | omega | with_reducible assumption | (simp only [List.length_set, List.length_replicate, List.length_map, List.length_append, bys_length, u32s_length, u64s_length, i64s_length, List.length_take, List.length_drop, List.length_cons, List.length_nil, *] <;> first | done | omega) | rfl) ?_
    simp only [List.set_cons_zero, List.set_cons_succ]
    refine vl_nil ?_
    refine (th_n ?_)
    refine VC_seq ?_
    refine VC_region ?_
    refine vl_v (q_move rfl) rfl ?_
    refine vl_v (q_lenS Try.underlying32 rfl) rfl ?_
    first | (refine vl_v (q_min (q := 64) rfl rfl) rfl ?_) | (refine vl_v (q_minI rfl rfl) rfl ?_)
    refine vl_v (q_assign rfl) rfl ?_
    refine vl_nil ?_
    refine (th_n ?_)
    refine VC_seq ?_
    have e1 : ((b.drop (64 * j)).take (min (b.length - 64 * j) 64)).length = min (b.length - 64 * j) 64 := by rw [List.length_take, List.length_drop]; omega
    have e2 : ((ks k nn nu j).take (min (b.length - 64 * j) 64)).length = min (b.length - 64 * j) 64 := by rw [List.length_take, hbl]; omega
    refine VC_drawM 10 [[], [], [0, 1], [], [3], [2, 4], [5], [6], [6], [7, 5, 0, 1, 2, 3, 4, 6], [8, 9, 0, 1, 2, 3, 4, 5, 6, 7]] [[], [], [0, 1], [], [3], [0, 1, 2, 3, 4], [0, 1, 2, 3, 4, 5], [0, 1, 2, 3, 4, 5, 6], [0, 1, 2, 3, 4, 5, 6], [0, 1, 2, 3, 4, 5, 6, 7], [0, 1, 2, 3, 4, 5, 6, 7, 8, 9]] rfl (by kernel_rfl) ?_
    refine qm_v (fun xs hx => q_move rfl) ?_
    refine qm_v (fun xs hx => q_move rfl) ?_
    refine qm_v (fun xs hx => q_slcS0 Try.underlying32 sz5 rfl ⟨_, rfl⟩ rfl (.inl rfl) (by omega) (by omega)) ?_
    refine qm_v (fun xs hx => q_move rfl) ?_
    refine qm_v (fun xs hx => q_slcA Try.underlying29 sz5 rfl rfl ⟨_, rfl⟩ rfl (.inl rfl) (by omega) (by omega) (by omega) (by omega) (by (try simp only [Nat.mul_one, Nat.zero_add, Nat.zero_mul, Nat.mul_zero, Nat.add_zero]) <;> rfl)) ?_
    refine qm_a (fun xs hx => q_callT Try.func18 rfl rfl rfl (fun w1 H1 => by have h := xor_calls ((b.drop (64 * j)).take (min (b.length - 64 * j) 64)) ((ks k nn nu j).take (min (b.length - 64 * j) 64)) B (some ⟨b10, 0, none⟩) d 64 w1 (by rw [← bys_take]; exact (Reads.old hB w1 H1).take _) (by rw [← bys_take]; exact ((H1.blk (k := 0) rfl).sl0).take _) (by rw [e1]; omega) (by rw [e2]; omega) (by rw [e1]; omega) (by rw [e1, e2]); rw [e1, e2] at h; exact h)) ?_
    refine qm_x [5] (fun ys => ys 5) rfl (fun xs => trivial) (fun xs hx => q_move rfl) ?_
    refine qm_x [5] (fun ys => tupAt (ys 5) 0) rfl (fun xs => trivial) (fun xs hx => q_extX rfl (let ⟨_, _, h, _⟩ := hx.1 rfl; ⟨_, _, h, rfl⟩)) ?_
    refine qm_x [5] (fun ys => tupAt (ys 5) 1) rfl (fun xs => trivial) (fun xs hx => q_extX rfl (let ⟨_, _, h, _⟩ := hx.1 rfl; ⟨_, _, h, rfl⟩)) ?_
    refine qm_x [5] (fun ys => tupAt (ys 5) 0) rfl (fun xs => trivial) (fun xs hx => q_assign rfl) ?_
    refine qm_end ?_
    intro xs hx
    obtain ⟨⟨A35, c35, e35, hc35, hm35⟩, _⟩ := hx
    simp only [show mask [5] xs 5 = xs 5 from rfl, e35, tupAt_0, tupAt_1]
    simp only [resT, nRow, nRowT, tupAt_0, List.append_assoc, List.nil_append, List.append_nil, List.cons_append, List.singleton_append, e35]
    refine VL.keep (Sub.cons (s := 2) rfl (Sub.cons (s := 3) rfl (Sub.cons (s := 4) rfl (Sub.cons (s := 5) rfl (Sub.cons (s := 9) rfl (Sub.cons (s := 19) rfl (Sub.cons (s := 10) rfl (Sub.cons (s := 11) rfl (Sub.cons (s := 37) rfl (Sub.cons (s := 12) rfl (Sub.nil _))))))))))) ?_
    refine vl_v (q_assign rfl) rfl ?_
    refine vl_nil ?_
    refine (qn_n (th_n ?_))
    refine VC_seq ?_
    refine VC_region ?_
    have hxl : (bys (xorB ((b.drop (64 * j)).take (min (b.length - 64 * j) 64)) ((ks k nn nu j).take (min (b.length - 64 * j) 64)))).length = min (b.length - 64 * j) 64 * 1 := by rw [bys_length]; simp [xorB]; omega
    refine vl_v (q_move rfl) rfl ?_
    refine vl_v (q_move rfl) rfl ?_
    refine l_append 2 rfl rfl rfl Try.underlying32 Try.underlying32 in5 rfl (by decide) (Reads.row 0 rfl) (by first | omega | with_reducible assumption | (simp only [List.length_set, List.length_replicate, List.length_map, List.length_append, bys_length, u32s_length, u64s_length, i64s_length, List.length_take, List.length_drop, List.length_cons, List.length_nil, *] <;> first | done | omega) | rfl) (by first | exact bys_one _ | exact u32s_one _ | exact u64s_one _ | exact i64s_one _ | with_reducible assumption | exact one_all rfl | (refine app_one ?_ ?_ <;> first | exact bys_one _ | (simp; done))) (by first | omega | with_reducible assumption | (simp only [List.length_set, List.length_replicate, List.length_map, List.length_append, bys_length, u32s_length, u64s_length, i64s_length, List.length_take, List.length_drop, List.length_cons, List.length_nil, *] <;> first | done | omega) | rfl) (by first | omega | with_reducible assumption | (simp only [List.length_set, List.length_replicate, List.length_map, List.length_append, bys_length, u32s_length, u64s_length, i64s_length, List.length_take, List.length_drop, List.length_cons, List.length_nil, *] <;> first | done | omega) | rfl) rfl ?_
    intro A40 c40 hc40
    simp only [List.set_cons_zero, List.set_cons_succ, ← bys_append, ← u32s_append, ← u64s_append, ← i64s_append, List.nil_append, Nat.zero_add]
    rw [show min (64 * j) b.length = 64 * j by omega, tb_chunk (ks k nn nu) (ks_length k nn nu) b j _ (by omega) (by omega)]
    refine vl_v (q_assign rfl) rfl ?_
    refine vl_nil ?_
    refine (th_n ?_)
    refine VC_region ?_
    refine vl_v (q_move rfl) rfl ?_
    refine vl_v (q_move rfl) rfl ?_
    refine vl_v (q_slcS Try.underlying32 sz5 rfl ⟨_, rfl⟩ rfl rfl (.inl rfl) (by omega) (by omega) (by omega)) rfl ?_
    refine vl_v (q_assign rfl) rfl ?_
    refine vl_nil ?_
    refine (bl_n (th_n ?_))
    refine VC_region ?_
    refine vl_v (q_move rfl) rfl ?_
    refine vl_v (q_add_u32 (q := UInt32.ofNat 1) rfl rfl) rfl ?_
    refine vl_v (q_assign rfl) rfl ?_
    refine vl_nil ?_
    refine (th_n ?_)
    rw [show 64 * j + min (b.length - 64 * j) 64 = min (64 * (j + 1)) b.length by omega]
    refine ⟨(j + 1, adv B (min (b.length - 64 * j) 64) d 1, d - min (b.length - 64 * j) 64, Value.slice A40 (min (64 * (j + 1)) b.length) c40), ⟨hB2, by simp only; omega⟩, by simp only; omega, (Sub.cons (s := 2) (by show _ = some (vU32 (nu + UInt32.ofNat (j + 1))); rw [← ofNat_succ32 nu j]; rfl) (Sub.cons (s := 3) (by show _ = some (Value.slice _ (b.length - 64 * (j + 1)) _); rw [show b.length - 64 * (j + 1) = b.length - 64 * j - min (b.length - 64 * j) 64 by omega]; rfl) (Sub.cons (s := 4) rfl (Sub.cons (s := 5) rfl (Sub.cons (s := 9) rfl (Sub.nil _)))))), fun w H => St.pick H (ks := [2, 3, 4]) (by decide) rfl⟩
  · skip
    have ht19 := of_decide_eq_false ht19
    refine VC_exit ?_
    refine (th_x (th_x (bl_xs (th_n ?_))))
    refine VC_seq ?_
    refine VC_region ?_
    refine vl_v (q_move rfl) rfl ?_
    refine vl_v (q_assign rfl) rfl ?_
    refine vl_nil ?_
    refine (th_n ?_)
    refine VC_ret ?_
    refine ⟨_, res1 rfl rfl, ?_⟩
    refine ⟨v, [.blk b5 24 (bys nn), .blk b4 23 (bys k)], rfl, ?_⟩
    simp only at ht19 ⊢
    rw [show min (64 * j) b.length = b.length by omega]
    rfl
end Go.Proofs.Ytjlhehdkopponaa
