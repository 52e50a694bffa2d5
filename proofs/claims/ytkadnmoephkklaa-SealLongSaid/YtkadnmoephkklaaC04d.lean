/- What the functions of package chacha do: the words at first, a block. No condition. -/
import Derived.Test.YtkadnmoephkklaaC04
namespace Go.Proofs.Ytkadnmoephkklaa
open Go.RowKit Go.PBYtkadnmoephkklaa
set_option linter.unusedVariables false
set_option linter.unusedSimpArgs false
set_option maxRecDepth 10000

theorem sl_arr {S : List Nat} {w0 w : World} {L : List Res} {b : Nat} {T : TypeId} {l : List UInt8} (k o : Nat) (H : St S w0 L w) (hk : L[k]? = some (.blk b T (bys l))) : SlAt w (some ⟨b, o, none⟩) (bys (l.drop o)) := by
  rw [← bys_drop]
  exact (H.blk hk).sl o
set_option maxHeartbeats 1000000 in
theorem begin_calls (k nn : List UInt8) (nu : UInt32) (hk : k.length = 32) (hn : nn.length = 12) (w : World) :
    Calls Try.prog 73 #[.agg (bys k).toArray, .agg (bys nn).toArray, vU32 nu] w fun e w' => e = .returned (.agg (u32s (beg k nn nu)).toArray) ∧ Kept [] w w' := by
  refine enter (n := 35) (R := fun e L => e = .returned (.agg (u32s (beg k nn nu)).toArray)) [.agg (bys k).toArray, .agg (bys nn).toArray, vU32 nu] Try.func73 rfl rfl rfl (St.refl w) ?_ (fun e w' L' h H => ⟨h, H.kept⟩)
  refine VC_seq ?_
  refine VC_region ?_
  refine l_boxA rfl rfl ?_
  intro b3
  refine l_boxA rfl rfl ?_
  intro b4
  refine l_allocA zr105 rfl ?_
  intro b6
  refine vl_nil ?_
  refine (th_n ?_)
  refine VC_seq ?_
  refine VC_region ?_
  refine vl_v (q_move rfl) rfl ?_
  refine vl_v (q_build (c' := u32s (begZ nu)) rfl (by kernel_rfl)) rfl ?_
  refine l_allocA zr105 rfl ?_
  intro b7
  refine l_storeA 0 rfl rfl rfl sz105 (by first | omega | with_reducible assumption | (simp only [zb, zu, zw, zi, za]; omega) | (simp only [zs, zr, zm, za, zb, zu, zw, zi, zt, zd, zc, zn, *] <;> first | done | omega) | rfl) (by first | (with_reducible first | exact bys_one _ | exact u32s_one _ | exact u64s_one _ | exact i64s_one _ | exact n64s_one _ | assumption) | exact bys_one _ | exact u32s_one _ | exact u64s_one _ | exact i64s_one _ | exact one_all rfl | (refine app_one ?_ ?_ <;> first | exact bys_one _ | (simp; done))) (by first | omega | with_reducible assumption | (simp only [zb, zu, zw, zi, za]; omega) | (simp only [zs, zr, zm, za, zb, zu, zw, zi, zt, zd, zc, zn, *] <;> first | done | omega) | rfl) ?_
  simp only [List.set_cons_zero, List.set_cons_succ]
  refine vl_nil ?_
  refine (th_n ?_)
  refine VC_seq ?_
  refine VC_seq ?_
  refine VC_region ?_
  refine vl_v (q_move rfl) rfl ?_
  refine vl_nil ?_
  refine (th_n ?_)
  refine VC_block ?_
  refine VC_loop (ι := Nat) (fun k' => k' ≤ 8) (fun k' => [(3, vP b3 0), (4, vP b4 0), (6, vP b6 0), (7, vP b7 0), (12, vN k')]) (fun k' => [.blk b7 105 (u32s (begK k nu k')), .blk b6 105 (u32s (List.replicate 16 0)), .blk b4 90 (bys nn), .blk b3 23 (bys k)]) (fun k' => 8 - k') 0 (by omega) (Sub.cons (s := 3) rfl (Sub.cons (s := 4) rfl (Sub.cons (s := 6) rfl (Sub.cons (s := 7) rfl (Sub.cons (s := 12) rfl (Sub.nil _)))))) (fun w H => H) ?_
  rintro k' hp
  have hl := begK_length k nu k'
  refine VC_seq ?_
  refine VC_region ?_
  first | (refine vl_v (q_lss_n (q := 8) Try.underlying3 rfl rfl) rfl ?_) | (refine vl_v (q_lss_k Try.underlying3 rfl rfl) rfl ?_)
  refine vl_nil ?_
  refine (th_n ?_)
  refine VC_seq ?_
  refine VC_cond rfl (fun ht13 => ?_) (fun ht13 => ?_)
  · skip
    have ht13 := of_decide_eq_true ht13
    refine VC_skip ?_
    refine (th_n ?_)
    refine VC_seq ?_
    refine VC_block ?_
    refine VC_seq ?_
    refine VC_region ?_
    refine vl_v (q_move rfl) rfl ?_
    refine vl_v (q_assign rfl) rfl ?_
    refine vl_nil ?_
    refine (th_n ?_)
    refine VC_region ?_
    refine vl_v (q_move rfl) rfl ?_
    first | (refine vl_v (q_add_n (p := 4) rfl rfl (by omega)) rfl ?_) | (refine vl_v (q_add_i rfl rfl (by omega) (by omega)) rfl ?_)
    refine vl_v (q_move rfl) rfl ?_
    first | (refine vl_v (q_mul_n (p := 4) rfl rfl (by omega)) rfl ?_) | (refine vl_v (q_mul_i rfl rfl (by omega) (by omega)) rfl ?_)
    refine vl_v (q_slcA Try.underlying23 sz5 rfl ⟨_, rfl⟩ rfl rfl (.inl rfl) (by omega) (by omega) (by omega) (by omega) (by (try simp only [Nat.mul_one, Nat.zero_add, Nat.zero_mul, Nat.mul_zero, Nat.add_zero]) <;> rfl)) rfl ?_
    refine vl_v (q_callV Try.func78 rfl rfl rfl (fun w1 H1 => word_calls (k.drop (4 * k')) _ _ _ (by simp; omega) w1 (sl_arr 3 _ H1 rfl) (by simp; omega) (by simp; omega) (by simp; omega))) rfl ?_
    first | (refine vl_v (q_idxA Try.underlying105 sz56 rfl rfl (by omega) (r := _) (by rw [Nat.mul_one, Nat.zero_add])) rfl ?_) | (refine vl_v (q_idxA Try.underlying105 sz56 rfl rfl (by omega) rfl) rfl ?_)
    first | (refine l_stU32 0 rfl rfl rfl sz56 (by first | omega | with_reducible assumption | (simp only [zb, zu, zw, zi, za]; omega) | (simp only [zs, zr, zm, za, zb, zu, zw, zi, zt, zd, zc, zn, *] <;> first | done | omega) | rfl) ?_) | (refine l_store1 0 rfl rfl rfl sz56 rfl (by first | decide | simp) ?_)
    simp only [List.set_cons_zero, List.set_cons_succ]
    refine vl_nil ?_
    refine (bl_n (th_n ?_))
    refine VC_region ?_
    first | (refine vl_v (q_add_n (q := 1) rfl rfl (by omega)) rfl ?_) | (refine vl_v (q_add_i rfl rfl (by omega) (by omega)) rfl ?_)
    refine vl_v (q_move rfl) rfl ?_
    refine vl_nil ?_
    refine (th_n ?_)
    refine ⟨k' + 1, by omega, by omega, (Sub.cons (s := 3) rfl (Sub.cons (s := 4) rfl (Sub.cons (s := 6) rfl (Sub.cons (s := 7) rfl (Sub.cons (s := 12) rfl (Sub.nil _)))))), fun w H => H⟩
  · skip
    have ht13 := of_decide_eq_false ht13
    obtain rfl : k' = 8 := by omega
    refine VC_exit ?_
    refine (th_x (th_x (bl_xs (th_n ?_))))
    refine VC_seq ?_
    refine VC_seq ?_
    refine VC_region ?_
    refine vl_v (q_move rfl) rfl ?_
    refine vl_nil ?_
    refine (th_n ?_)
    refine VC_block ?_
    refine VC_loop (ι := Nat) (fun j => j ≤ 3) (fun j => [(4, vP b4 0), (6, vP b6 0), (7, vP b7 0), (23, vN j)]) (fun j => [.blk b7 105 (u32s (begN k nn nu j)), .blk b6 105 (u32s (List.replicate 16 0)), .blk b4 90 (bys nn)]) (fun j => 3 - j) 0 (by omega) (Sub.cons (s := 4) rfl (Sub.cons (s := 6) rfl (Sub.cons (s := 7) rfl (Sub.cons (s := 23) rfl (Sub.nil _))))) (fun w H => St.pick H (ks := [0, 1, 2]) (by decide) rfl) ?_
    rintro j hp
    have hl := begN_length k nn nu j
    refine VC_seq ?_
    refine VC_region ?_
    first | (refine vl_v (q_lss_n (q := 3) Try.underlying3 rfl rfl) rfl ?_) | (refine vl_v (q_lss_k Try.underlying3 rfl rfl) rfl ?_)
    refine vl_nil ?_
    refine (th_n ?_)
    refine VC_seq ?_
    refine VC_cond rfl (fun ht24 => ?_) (fun ht24 => ?_)
    · skip
      have ht24 := of_decide_eq_true ht24
      refine VC_skip ?_
      refine (th_n ?_)
      refine VC_seq ?_
      refine VC_block ?_
      refine VC_seq ?_
      refine VC_region ?_
      refine vl_v (q_move rfl) rfl ?_
      refine vl_v (q_assign rfl) rfl ?_
      refine vl_nil ?_
      refine (th_n ?_)
      refine VC_region ?_
      refine vl_v (q_move rfl) rfl ?_
      first | (refine vl_v (q_add_n (p := 13) rfl rfl (by omega)) rfl ?_) | (refine vl_v (q_add_i rfl rfl (by omega) (by omega)) rfl ?_)
      refine vl_v (q_move rfl) rfl ?_
      first | (refine vl_v (q_mul_n (p := 4) rfl rfl (by omega)) rfl ?_) | (refine vl_v (q_mul_i rfl rfl (by omega) (by omega)) rfl ?_)
      refine vl_v (q_slcA Try.underlying90 sz5 rfl ⟨_, rfl⟩ rfl rfl (.inl rfl) (by omega) (by omega) (by omega) (by omega) (by (try simp only [Nat.mul_one, Nat.zero_add, Nat.zero_mul, Nat.mul_zero, Nat.add_zero]) <;> rfl)) rfl ?_
      refine vl_v (q_callV Try.func78 rfl rfl rfl (fun w1 H1 => word_calls (nn.drop (4 * j)) _ _ _ (by simp; omega) w1 (sl_arr 2 _ H1 rfl) (by simp; omega) (by simp; omega) (by simp; omega))) rfl ?_
      first | (refine vl_v (q_idxA Try.underlying105 sz56 rfl rfl (by omega) (r := _) (by rw [Nat.mul_one, Nat.zero_add])) rfl ?_) | (refine vl_v (q_idxA Try.underlying105 sz56 rfl rfl (by omega) rfl) rfl ?_)
      first | (refine l_stU32 0 rfl rfl rfl sz56 (by first | omega | with_reducible assumption | (simp only [zb, zu, zw, zi, za]; omega) | (simp only [zs, zr, zm, za, zb, zu, zw, zi, zt, zd, zc, zn, *] <;> first | done | omega) | rfl) ?_) | (refine l_store1 0 rfl rfl rfl sz56 rfl (by first | decide | simp) ?_)
      simp only [List.set_cons_zero, List.set_cons_succ]
      refine vl_nil ?_
      refine (bl_n (th_n ?_))
      refine VC_region ?_
      first | (refine vl_v (q_add_n (q := 1) rfl rfl (by omega)) rfl ?_) | (refine vl_v (q_add_i rfl rfl (by omega) (by omega)) rfl ?_)
      refine vl_v (q_move rfl) rfl ?_
      refine vl_nil ?_
      refine (th_n ?_)
      refine ⟨j + 1, by omega, by omega, (Sub.cons (s := 4) rfl (Sub.cons (s := 6) rfl (Sub.cons (s := 7) rfl (Sub.cons (s := 23) rfl (Sub.nil _))))), fun w H => H⟩
    · skip
      have ht24 := of_decide_eq_false ht24
      obtain rfl : j = 3 := by omega
      have hl := begN_length k nn nu 3
      refine VC_exit ?_
      refine (th_x (th_x (bl_xs (th_n ?_))))
      refine VC_seq ?_
      refine VC_region ?_
      first | (refine vl_v (q_loads 0 Try.underlying105 rfl rfl rfl sz105 (by first | omega | with_reducible assumption | (simp only [zb, zu, zw, zi, za]; omega) | (simp only [zs, zr, zm, za, zb, zu, zw, zi, zt, zd, zc, zn, *] <;> first | done | omega) | rfl)) rfl ?_) | (refine vl_v (q_loadsAt 0 Try.underlying105 rfl rfl rfl sz105 (by rfl) (by first | omega | with_reducible assumption | (simp only [zb, zu, zw, zi, za]; omega) | (simp only [zs, zr, zm, za, zb, zu, zw, zi, zt, zd, zc, zn, *] <;> first | done | omega) | rfl)) rfl ?_)
      refine l_storeA 1 rfl rfl rfl sz105 (by first | omega | with_reducible assumption | (simp only [zb, zu, zw, zi, za]; omega) | (simp only [zs, zr, zm, za, zb, zu, zw, zi, zt, zd, zc, zn, *] <;> first | done | omega) | rfl) (by first | (with_reducible first | exact bys_one _ | exact u32s_one _ | exact u64s_one _ | exact i64s_one _ | exact n64s_one _ | assumption) | exact bys_one _ | exact u32s_one _ | exact u64s_one _ | exact i64s_one _ | exact one_all rfl | (refine app_one ?_ ?_ <;> first | exact bys_one _ | (simp; done))) (by first | omega | with_reducible assumption | (simp only [zb, zu, zw, zi, za]; omega) | (simp only [zs, zr, zm, za, zb, zu, zw, zi, zt, zd, zc, zn, *] <;> first | done | omega) | rfl) ?_
      simp only [List.set_cons_zero, List.set_cons_succ]
      refine vl_nil ?_
      refine (th_n ?_)
      refine VC_ret ?_
      refine ⟨_, resC1 1 rfl Try.underlying105 rfl rfl rfl sz105 (by first | omega | with_reducible assumption | (simp only [zb, zu, zw, zi, za]; omega) | (simp only [zs, zr, zm, za, zb, zu, zw, zi, zt, zd, zc, zn, *] <;> first | done | omega) | rfl), ?_⟩
      exact rfl
end Go.Proofs.Ytkadnmoephkklaa
namespace Go.Proofs.Ytkadnmoephkklaa
open Go.RowKit Go.PBYtkadnmoephkklaa
set_option linter.unusedVariables false
set_option linter.unusedSimpArgs false
set_option maxRecDepth 10000

set_option maxHeartbeats 1000000 in
theorem block_calls (k nn : List UInt8) (nu : UInt32) (hk : k.length = 32) (hn : nn.length = 12) (w : World) :
    Calls Try.prog 65 #[.agg (bys k).toArray, .agg (bys nn).toArray, vU32 nu] w fun e w' => e = .returned (.agg (bys (block k nn nu)).toArray) ∧ Kept [] w w' := by
  have hv := beg_length k nn nu
  refine enter (n := 69) (R := fun e L => e = .returned (.agg (bys (block k nn nu)).toArray)) [.agg (bys k).toArray, .agg (bys nn).toArray, vU32 nu] Try.func65 rfl rfl rfl (St.refl w) ?_ (fun e w' L' h H => ⟨h, H.kept⟩)
  refine VC_seq ?_
  refine VC_region ?_
  refine l_boxA rfl rfl ?_
  intro b3
  refine l_boxA rfl rfl ?_
  intro b4
  refine l_allocA zr64 rfl ?_
  intro b6
  refine vl_nil ?_
  refine (th_n ?_)
  refine VC_seq ?_
  refine VC_region ?_
  first | (refine vl_v (q_loads 2 Try.underlying23 rfl rfl rfl sz23 (by first | omega | with_reducible assumption | (simp only [zb, zu, zw, zi, za]; omega) | (simp only [zs, zr, zm, za, zb, zu, zw, zi, zt, zd, zc, zn, *] <;> first | done | omega) | rfl)) rfl ?_) | (refine vl_v (q_loadsAt 2 Try.underlying23 rfl rfl rfl sz23 (by rfl) (by first | omega | with_reducible assumption | (simp only [zb, zu, zw, zi, za]; omega) | (simp only [zs, zr, zm, za, zb, zu, zw, zi, zt, zd, zc, zn, *] <;> first | done | omega) | rfl)) rfl ?_)
  first | (refine vl_v (q_loads 1 Try.underlying90 rfl rfl rfl sz90 (by first | omega | with_reducible assumption | (simp only [zb, zu, zw, zi, za]; omega) | (simp only [zs, zr, zm, za, zb, zu, zw, zi, zt, zd, zc, zn, *] <;> first | done | omega) | rfl)) rfl ?_) | (refine vl_v (q_loadsAt 1 Try.underlying90 rfl rfl rfl sz90 (by rfl) (by first | omega | with_reducible assumption | (simp only [zb, zu, zw, zi, za]; omega) | (simp only [zs, zr, zm, za, zb, zu, zw, zi, zt, zd, zc, zn, *] <;> first | done | omega) | rfl)) rfl ?_)
  refine vl_v (q_move rfl) rfl ?_
  refine vl_v (q_callV Try.func73 rfl rfl rfl (fun w1 H1 => begin_calls k nn nu hk hn w1)) rfl ?_
  refine l_allocA zr105 rfl ?_
  intro b7
  refine l_storeA 0 rfl rfl rfl sz105 (by first | omega | with_reducible assumption | (simp only [zb, zu, zw, zi, za]; omega) | (simp only [zs, zr, zm, za, zb, zu, zw, zi, zt, zd, zc, zn, *] <;> first | done | omega) | rfl) (by first | (with_reducible first | exact bys_one _ | exact u32s_one _ | exact u64s_one _ | exact i64s_one _ | exact n64s_one _ | assumption) | exact bys_one _ | exact u32s_one _ | exact u64s_one _ | exact i64s_one _ | exact one_all rfl | (refine app_one ?_ ?_ <;> first | exact bys_one _ | (simp; done))) (by first | omega | with_reducible assumption | (simp only [zb, zu, zw, zi, za]; omega) | (simp only [zs, zr, zm, za, zb, zu, zw, zi, zt, zd, zc, zn, *] <;> first | done | omega) | rfl) ?_
  simp only [List.set_cons_zero, List.set_cons_succ]
  refine vl_nil ?_
  refine (th_n ?_)
  refine VC_seq ?_
  refine VC_region ?_
  first | (refine vl_v (q_loads 0 Try.underlying105 rfl rfl rfl sz105 (by first | omega | with_reducible assumption | (simp only [zb, zu, zw, zi, za]; omega) | (simp only [zs, zr, zm, za, zb, zu, zw, zi, zt, zd, zc, zn, *] <;> first | done | omega) | rfl)) rfl ?_) | (refine vl_v (q_loadsAt 0 Try.underlying105 rfl rfl rfl sz105 (by rfl) (by first | omega | with_reducible assumption | (simp only [zb, zu, zw, zi, za]; omega) | (simp only [zs, zr, zm, za, zb, zu, zw, zi, zt, zd, zc, zn, *] <;> first | done | omega) | rfl)) rfl ?_)
  refine l_allocA zr105 rfl ?_
  intro b8
  refine l_storeA 0 rfl rfl rfl sz105 (by first | omega | with_reducible assumption | (simp only [zb, zu, zw, zi, za]; omega) | (simp only [zs, zr, zm, za, zb, zu, zw, zi, zt, zd, zc, zn, *] <;> first | done | omega) | rfl) (by first | (with_reducible first | exact bys_one _ | exact u32s_one _ | exact u64s_one _ | exact i64s_one _ | exact n64s_one _ | assumption) | exact bys_one _ | exact u32s_one _ | exact u64s_one _ | exact i64s_one _ | exact one_all rfl | (refine app_one ?_ ?_ <;> first | exact bys_one _ | (simp; done))) (by first | omega | with_reducible assumption | (simp only [zb, zu, zw, zi, za]; omega) | (simp only [zs, zr, zm, za, zb, zu, zw, zi, zt, zd, zc, zn, *] <;> first | done | omega) | rfl) ?_
  simp only [List.set_cons_zero, List.set_cons_succ]
  refine vl_nil ?_
  refine (th_n ?_)
  refine VC_seq ?_
  refine VC_seq ?_
  refine VC_region ?_
  refine vl_v (q_move rfl) rfl ?_
  refine vl_nil ?_
  refine (th_n ?_)
  refine VC_block ?_
  refine VC_loop (ι := Nat) (fun r => r ≤ 10) (fun r => [(6, vP b6 0), (7, vP b7 0), (8, vP b8 0), (18, vN r)]) (fun r => [.blk b8 105 (u32s (rnd (beg k nn nu) r)), .blk b7 105 (u32s (beg k nn nu)), .blk b6 64 (bys (List.replicate 64 0))]) (fun r => 10 - r) 0 (by omega) (Sub.cons (s := 6) rfl (Sub.cons (s := 7) rfl (Sub.cons (s := 8) rfl (Sub.cons (s := 18) rfl (Sub.nil _))))) (fun w H => St.pick H (ks := [0, 1, 2]) (by decide) rfl) ?_
  rintro r hp
  have hr := (rnd_length (beg k nn nu) r).trans hv
  refine VC_seq ?_
  refine VC_region ?_
  first | (refine vl_v (q_lss_n (q := 10) Try.underlying3 rfl rfl) rfl ?_) | (refine vl_v (q_lss_k Try.underlying3 rfl rfl) rfl ?_)
  refine vl_nil ?_
  refine (th_n ?_)
  refine VC_seq ?_
  refine VC_cond rfl (fun ht19 => ?_) (fun ht19 => ?_)
  · skip
    have ht19 := of_decide_eq_true ht19
    refine VC_skip ?_
    refine (th_n ?_)
    refine VC_seq ?_
    refine VC_block ?_
    refine VC_seq ?_
    refine VC_seq ?_
    refine VC_region ?_
    refine vl_v (q_move rfl) rfl ?_
    refine vl_nil ?_
    refine (th_n ?_)
    refine VC_block ?_
    refine VC_loop (ι := Nat) (fun i => i ≤ 4) (fun i => [(6, vP b6 0), (7, vP b7 0), (8, vP b8 0), (18, vN r), (20, vN i)]) (fun i => [.blk b8 105 (u32s (cols (rnd (beg k nn nu) r) i)), .blk b7 105 (u32s (beg k nn nu)), .blk b6 64 (bys (List.replicate 64 0))]) (fun i => 4 - i) 0 (by omega) (Sub.cons (s := 6) rfl (Sub.cons (s := 7) rfl (Sub.cons (s := 8) rfl (Sub.cons (s := 18) rfl (Sub.cons (s := 20) rfl (Sub.nil _)))))) (fun w H => H) ?_
    rintro i hp
    have hi := (cols_length (rnd (beg k nn nu) r) i).trans hr
    refine VC_seq ?_
    refine VC_region ?_
    first | (refine vl_v (q_lss_n (q := 4) Try.underlying3 rfl rfl) rfl ?_) | (refine vl_v (q_lss_k Try.underlying3 rfl rfl) rfl ?_)
    refine vl_nil ?_
    refine (th_n ?_)
    refine VC_seq ?_
    refine VC_cond rfl (fun ht21 => ?_) (fun ht21 => ?_)
    · skip
      have ht21 := of_decide_eq_true ht21
      refine VC_skip ?_
      refine (th_n ?_)
      refine VC_seq ?_
      refine VC_block ?_
      refine VC_seq ?_
      refine VC_region ?_
      refine vl_v (q_move rfl) rfl ?_
      refine vl_v (q_assign rfl) rfl ?_
      refine vl_nil ?_
      refine (th_n ?_)
      refine VC_region ?_
      refine vl_v (q_move rfl) rfl ?_
      refine vl_v (q_move rfl) rfl ?_
      first | (refine vl_v (q_add_n (p := 4) rfl rfl (by omega)) rfl ?_) | (refine vl_v (q_add_i rfl rfl (by omega) (by omega)) rfl ?_)
      refine vl_v (q_move rfl) rfl ?_
      first | (refine vl_v (q_add_n (p := 8) rfl rfl (by omega)) rfl ?_) | (refine vl_v (q_add_i rfl rfl (by omega) (by omega)) rfl ?_)
      refine vl_v (q_move rfl) rfl ?_
      first | (refine vl_v (q_add_n (p := 12) rfl rfl (by omega)) rfl ?_) | (refine vl_v (q_add_i rfl rfl (by omega) (by omega)) rfl ?_)
      refine l_callE Try.func74 rfl rfl rfl (fun w1 H1 => quarter_calls (cols (rnd (beg k nn nu) r) i) i (4 + i) (8 + i) (12 + i) b8 hi (by omega) (by omega) (by omega) (by omega) w1 H1) rfl ?_
      refine vl_nil ?_
      refine (bl_n (th_n ?_))
      refine VC_region ?_
      first | (refine vl_v (q_add_n (q := 1) rfl rfl (by omega)) rfl ?_) | (refine vl_v (q_add_i rfl rfl (by omega) (by omega)) rfl ?_)
      refine vl_v (q_move rfl) rfl ?_
      refine vl_nil ?_
      refine (th_n ?_)
      refine ⟨i + 1, by omega, by omega, (Sub.cons (s := 6) rfl (Sub.cons (s := 7) rfl (Sub.cons (s := 8) rfl (Sub.cons (s := 18) rfl (Sub.cons (s := 20) rfl (Sub.nil _)))))), fun w H => H⟩
    · skip
      have ht21 := of_decide_eq_false ht21
      obtain rfl : i = 4 := by omega
      refine VC_exit ?_
      refine (th_x (th_x (bl_xs (th_n ?_))))
      refine VC_seq ?_
      refine VC_region ?_
      refine vl_v (q_move rfl) rfl ?_
      refine vl_nil ?_
      refine (th_n ?_)
      refine VC_block ?_
      refine VC_loop (ι := Nat) (fun j => j ≤ 4) (fun j => [(6, vP b6 0), (7, vP b7 0), (8, vP b8 0), (18, vN r), (32, vN j)]) (fun j => [.blk b8 105 (u32s (diags (cols (rnd (beg k nn nu) r) 4) j)), .blk b7 105 (u32s (beg k nn nu)), .blk b6 64 (bys (List.replicate 64 0))]) (fun j => 4 - j) 0 (by omega) (Sub.cons (s := 6) rfl (Sub.cons (s := 7) rfl (Sub.cons (s := 8) rfl (Sub.cons (s := 18) rfl (Sub.cons (s := 32) rfl (Sub.nil _)))))) (fun w H => H) ?_
      rintro j hp
      have hj := (diags_length (cols (rnd (beg k nn nu) r) 4) j).trans hi
      refine VC_seq ?_
      refine VC_region ?_
      first | (refine vl_v (q_lss_n (q := 4) Try.underlying3 rfl rfl) rfl ?_) | (refine vl_v (q_lss_k Try.underlying3 rfl rfl) rfl ?_)
      refine vl_nil ?_
      refine (th_n ?_)
      refine VC_seq ?_
      refine VC_cond rfl (fun ht33 => ?_) (fun ht33 => ?_)
      · skip
        have ht33 := of_decide_eq_true ht33
        refine VC_skip ?_
        refine (th_n ?_)
        refine VC_seq ?_
        refine VC_block ?_
        refine VC_seq ?_
        refine VC_region ?_
        refine vl_v (q_move rfl) rfl ?_
        refine vl_v (q_assign rfl) rfl ?_
        refine vl_nil ?_
        refine (th_n ?_)
        refine VC_region ?_
        refine vl_v (q_move rfl) rfl ?_
        refine vl_v (q_move rfl) rfl ?_
        first | (refine vl_v (q_add_n (q := 1) rfl rfl (by omega)) rfl ?_) | (refine vl_v (q_add_i rfl rfl (by omega) (by omega)) rfl ?_)
        refine vl_v (q_rem_n (q := 4) rfl rfl (by omega)) rfl ?_
        first | (refine vl_v (q_add_n (p := 4) rfl rfl (by omega)) rfl ?_) | (refine vl_v (q_add_i rfl rfl (by omega) (by omega)) rfl ?_)
        refine vl_v (q_move rfl) rfl ?_
        first | (refine vl_v (q_add_n (q := 2) rfl rfl (by omega)) rfl ?_) | (refine vl_v (q_add_i rfl rfl (by omega) (by omega)) rfl ?_)
        refine vl_v (q_rem_n (q := 4) rfl rfl (by omega)) rfl ?_
        first | (refine vl_v (q_add_n (p := 8) rfl rfl (by omega)) rfl ?_) | (refine vl_v (q_add_i rfl rfl (by omega) (by omega)) rfl ?_)
        refine vl_v (q_move rfl) rfl ?_
        first | (refine vl_v (q_add_n (q := 3) rfl rfl (by omega)) rfl ?_) | (refine vl_v (q_add_i rfl rfl (by omega) (by omega)) rfl ?_)
        refine vl_v (q_rem_n (q := 4) rfl rfl (by omega)) rfl ?_
        first | (refine vl_v (q_add_n (p := 12) rfl rfl (by omega)) rfl ?_) | (refine vl_v (q_add_i rfl rfl (by omega) (by omega)) rfl ?_)
        refine l_callE Try.func74 rfl rfl rfl (fun w1 H1 => quarter_calls (diags (cols (rnd (beg k nn nu) r) 4) j) j (4 + (j + 1) % 4) (8 + (j + 2) % 4) (12 + (j + 3) % 4) b8 hj (by omega) (by omega) (by omega) (by omega) w1 H1) rfl ?_
        refine vl_nil ?_
        refine (bl_n (th_n ?_))
        refine VC_region ?_
        first | (refine vl_v (q_add_n (q := 1) rfl rfl (by omega)) rfl ?_) | (refine vl_v (q_add_i rfl rfl (by omega) (by omega)) rfl ?_)
        refine vl_v (q_move rfl) rfl ?_
        refine vl_nil ?_
        refine (th_n ?_)
        refine ⟨j + 1, by omega, by omega, (Sub.cons (s := 6) rfl (Sub.cons (s := 7) rfl (Sub.cons (s := 8) rfl (Sub.cons (s := 18) rfl (Sub.cons (s := 32) rfl (Sub.nil _)))))), fun w H => H⟩
      · skip
        have ht33 := of_decide_eq_false ht33
        obtain rfl : j = 4 := by omega
        refine VC_exit ?_
        refine (th_x (th_x (bl_xs (bl_n (th_n ?_)))))
        refine VC_region ?_
        first | (refine vl_v (q_add_n (q := 1) rfl rfl (by omega)) rfl ?_) | (refine vl_v (q_add_i rfl rfl (by omega) (by omega)) rfl ?_)
        refine vl_v (q_move rfl) rfl ?_
        refine vl_nil ?_
        refine (th_n ?_)
        refine ⟨r + 1, by omega, by omega, (Sub.cons (s := 6) rfl (Sub.cons (s := 7) rfl (Sub.cons (s := 8) rfl (Sub.cons (s := 18) rfl (Sub.nil _))))), fun w H => H⟩
  · skip
    have ht19 := of_decide_eq_false ht19
    obtain rfl : r = 10 := by omega
    refine VC_exit ?_
    refine (th_x (th_x (bl_xs (th_n ?_))))
    refine VC_seq ?_
    refine VC_region ?_
    refine l_allocA zr64 rfl ?_
    intro b11
    refine vl_nil ?_
    refine (th_n ?_)
    refine VC_seq ?_
    refine VC_seq ?_
    refine VC_region ?_
    refine vl_v (q_move rfl) rfl ?_
    refine vl_nil ?_
    refine (th_n ?_)
    refine VC_block ?_
    refine VC_loop (ι := Nat) (fun q => q ≤ 16) (fun q => [(6, vP b6 0), (7, vP b7 0), (8, vP b8 0), (11, vP b11 0), (51, vN q)]) (fun q => [.blk b11 64 (bys (outP (beg k nn nu) (rnd (beg k nn nu) 10) q ++ List.replicate (64 - 4 * q) 0)), .blk b8 105 (u32s (rnd (beg k nn nu) 10)), .blk b7 105 (u32s (beg k nn nu)), .blk b6 64 (bys (List.replicate 64 0))]) (fun q => 16 - q) 0 (by omega) (Sub.cons (s := 6) rfl (Sub.cons (s := 7) rfl (Sub.cons (s := 8) rfl (Sub.cons (s := 11) rfl (Sub.cons (s := 51) rfl (Sub.nil _)))))) (fun w H => H) ?_
    rintro q hp
    have ho := outP_length (beg k nn nu) (rnd (beg k nn nu) 10) q
    refine VC_seq ?_
    refine VC_region ?_
    first | (refine vl_v (q_lss_n (q := 16) Try.underlying3 rfl rfl) rfl ?_) | (refine vl_v (q_lss_k Try.underlying3 rfl rfl) rfl ?_)
    refine vl_nil ?_
    refine (th_n ?_)
    refine VC_seq ?_
    refine VC_cond rfl (fun ht52 => ?_) (fun ht52 => ?_)
    · skip
      have ht52 := of_decide_eq_true ht52
      refine VC_skip ?_
      refine (th_n ?_)
      refine VC_seq ?_
      refine VC_block ?_
      refine VC_seq ?_
      refine VC_region ?_
      refine vl_v (q_move rfl) rfl ?_
      refine vl_v (q_assign rfl) rfl ?_
      refine vl_nil ?_
      refine (th_n ?_)
      have hx1 := UInt32.toNat_lt ((beg k nn nu).getD q 0 + (rnd (beg k nn nu) 10).getD q 0)
      refine VC_drawM 12 [[], [0], [1], [], [3], [4], [], [6], [7], [5, 8], [9], [10], [2, 11]] [[], [0], [0, 1], [], [3], [3, 4], [], [6], [6, 7], [3, 4, 5, 6, 7, 8], [3, 4, 5, 6, 7, 8, 9], [3, 4, 5, 6, 7, 8, 9, 10], [0, 1, 2, 3, 4, 5, 6, 7, 8, 9, 10, 11]] rfl (by kernel_rfl) ?_
      refine qm_v (fun xs hx => q_move rfl) ?_
      first | (refine qm_v (fun xs hx => q_mul_n (p := 4) rfl rfl (by omega)) ?_) | (refine qm_v (fun xs hx => q_mul_i rfl rfl (by omega) (by omega)) ?_)
      refine qm_v (fun xs hx => q_slcA Try.underlying64 sz5 rfl ⟨_, rfl⟩ rfl rfl (.inl rfl) (by omega) (by omega) (by omega) (by omega) (by (try simp only [Nat.mul_one, Nat.zero_add, Nat.zero_mul, Nat.mul_zero, Nat.add_zero]) <;> rfl)) ?_
      refine qm_v (fun xs hx => q_move rfl) ?_
      first | (refine qm_v (fun xs hx => q_idxA Try.underlying105 sz56 rfl rfl (by omega) (r := _) (by rw [Nat.mul_one, Nat.zero_add])) ?_) | (refine qm_v (fun xs hx => q_idxA Try.underlying105 sz56 rfl rfl (by omega) rfl) ?_)
      first | (refine qm_v (fun xs hx => q_load 2 Try.underlying56 rfl rfl rfl (u32s_at (by first | omega | with_reducible assumption | (simp only [zb, zu, zw, zi, za]; omega) | (simp only [zs, zr, zm, za, zb, zu, zw, zi, zt, zd, zc, zn, *] <;> first | done | omega) | rfl))) ?_) | (refine qm_v (fun xs hx => q_load 2 Try.underlying56 rfl rfl rfl rfl) ?_)
      refine qm_v (fun xs hx => q_move rfl) ?_
      first | (refine qm_v (fun xs hx => q_idxA Try.underlying105 sz56 rfl rfl (by omega) (r := _) (by rw [Nat.mul_one, Nat.zero_add])) ?_) | (refine qm_v (fun xs hx => q_idxA Try.underlying105 sz56 rfl rfl (by omega) rfl) ?_)
      first | (refine qm_v (fun xs hx => q_load 1 Try.underlying56 rfl rfl rfl (u32s_at (by first | omega | with_reducible assumption | (simp only [zb, zu, zw, zi, za]; omega) | (simp only [zs, zr, zm, za, zb, zu, zw, zi, zt, zd, zc, zn, *] <;> first | done | omega) | rfl))) ?_) | (refine qm_v (fun xs hx => q_load 1 Try.underlying56 rfl rfl rfl rfl) ?_)
      refine qm_v (fun xs hx => q_add_u32 rfl rfl) ?_
      refine qm_v (fun xs hx => q_conv_k (r := (((beg k nn nu).getD q 0 + (rnd (beg k nn nu) 10).getD q 0).toNat : Int)) Try.underlying56 Try.underlying61 rfl (by rw [IntKind.wrap_u64]; omega)) ?_
      refine qm_a (fun xs hx => q_callR Try.func75 rfl rfl rfl (fun w1 H1 => low_calls _ 4 4 (by decide) (by decide) w1)) ?_
      refine qm_end ?_
      intro xs hx
      obtain ⟨⟨A65, c65, e65, hc65, hm65⟩, _⟩ := hx
      simp only [e65]
      simp only [resT, nRow, nBlk, nRowT, tupAt_0, List.append_assoc, List.nil_append, List.append_nil, List.cons_append, List.singleton_append, e65]
      refine VL.keep (Sub.cons (s := 6) rfl (Sub.cons (s := 7) rfl (Sub.cons (s := 8) rfl (Sub.cons (s := 11) rfl (Sub.cons (s := 51) rfl (Sub.cons (s := 52) rfl (Sub.cons (s := 12) rfl (Sub.cons (s := 56) rfl (Sub.cons (s := 65) rfl (Sub.nil _)))))))))) ?_
      refine l_copy 1 rfl rfl rfl Try.underlying24 Try.underlying24 sz5 (Reads.row 0 rfl) (by first | omega | with_reducible assumption | (simp only [zb, zu, zw, zi, za]; omega) | (simp only [zs, zr, zm, za, zb, zu, zw, zi, zt, zd, zc, zn, *] <;> first | done | omega) | rfl) (by first | (with_reducible first | exact bys_one _ | exact u32s_one _ | exact u64s_one _ | exact i64s_one _ | exact n64s_one _ | assumption) | exact bys_one _ | exact u32s_one _ | exact u64s_one _ | exact i64s_one _ | exact one_all rfl | (refine app_one ?_ ?_ <;> first | exact bys_one _ | (simp; done))) (by first | omega | with_reducible assumption | (simp only [zb, zu, zw, zi, za]; omega) | (simp only [zs, zr, zm, za, zb, zu, zw, zi, zt, zd, zc, zn, *] <;> first | done | omega) | rfl) rfl ?_
      simp only [List.set_cons_zero, List.set_cons_succ]
      rw [outP_copy _ _ q ht52]
      refine vl_nil ?_
      refine (qn_n (bl_n (th_n ?_)))
      refine VC_region ?_
      first | (refine vl_v (q_add_n (q := 1) rfl rfl (by omega)) rfl ?_) | (refine vl_v (q_add_i rfl rfl (by omega) (by omega)) rfl ?_)
      refine vl_v (q_move rfl) rfl ?_
      refine vl_nil ?_
      refine (th_n ?_)
      refine ⟨q + 1, by omega, by omega, (Sub.cons (s := 6) rfl (Sub.cons (s := 7) rfl (Sub.cons (s := 8) rfl (Sub.cons (s := 11) rfl (Sub.cons (s := 51) rfl (Sub.nil _)))))), fun w H => St.pick H (ks := [1, 2, 3, 4]) (by decide) rfl⟩
    · skip
      have ht52 := of_decide_eq_false ht52
      obtain rfl : q = 16 := by omega
      rw [show List.replicate (64 - 4 * 16) (0 : UInt8) = [] from rfl, List.append_nil]
      refine VC_exit ?_
      refine (th_x (th_x (bl_xs (th_n ?_))))
      refine VC_seq ?_
      refine VC_region ?_
      first | (refine vl_v (q_loads 0 Try.underlying64 rfl rfl rfl sz64 (by first | omega | with_reducible assumption | (simp only [zb, zu, zw, zi, za]; omega) | (simp only [zs, zr, zm, za, zb, zu, zw, zi, zt, zd, zc, zn, *] <;> first | done | omega) | rfl)) rfl ?_) | (refine vl_v (q_loadsAt 0 Try.underlying64 rfl rfl rfl sz64 (by rfl) (by first | omega | with_reducible assumption | (simp only [zb, zu, zw, zi, za]; omega) | (simp only [zs, zr, zm, za, zb, zu, zw, zi, zt, zd, zc, zn, *] <;> first | done | omega) | rfl)) rfl ?_)
      refine l_storeA 3 rfl rfl rfl sz64 (by first | omega | with_reducible assumption | (simp only [zb, zu, zw, zi, za]; omega) | (simp only [zs, zr, zm, za, zb, zu, zw, zi, zt, zd, zc, zn, *] <;> first | done | omega) | rfl) (by first | (with_reducible first | exact bys_one _ | exact u32s_one _ | exact u64s_one _ | exact i64s_one _ | exact n64s_one _ | assumption) | exact bys_one _ | exact u32s_one _ | exact u64s_one _ | exact i64s_one _ | exact one_all rfl | (refine app_one ?_ ?_ <;> first | exact bys_one _ | (simp; done))) (by first | omega | with_reducible assumption | (simp only [zb, zu, zw, zi, za]; omega) | (simp only [zs, zr, zm, za, zb, zu, zw, zi, zt, zd, zc, zn, *] <;> first | done | omega) | rfl) ?_
      simp only [List.set_cons_zero, List.set_cons_succ]
      refine vl_nil ?_
      refine (th_n ?_)
      refine VC_ret ?_
      refine ⟨_, resC1 3 rfl Try.underlying64 rfl rfl rfl sz64 (by first | omega | with_reducible assumption | (simp only [zb, zu, zw, zi, za]; omega) | (simp only [zs, zr, zm, za, zb, zu, zw, zi, zt, zd, zc, zn, *] <;> first | done | omega) | rfl), ?_⟩
      exact rfl
end Go.Proofs.Ytkadnmoephkklaa
namespace Go.Proofs.Ytkadnmoephkklaa
open Go.RowKit Go.PBYtkadnmoephkklaa
set_option linter.unusedVariables false
set_option linter.unusedSimpArgs false
set_option maxRecDepth 10000

theorem ofNat_succ32 (n : UInt32) (j : Nat) : n + UInt32.ofNat j + UInt32.ofNat 1 = n + UInt32.ofNat (j + 1) := by
  rw [UInt32.add_assoc]
  congr 1
  exact (UInt32.ofNat_add j 1).symm
set_option maxHeartbeats 1000000 in
theorem turn_calls (k nn : List UInt8) (nu : UInt32) (b : List UInt8) (A : Option Addr) (c : Nat) (hk : k.length = 32) (hn : nn.length = 12) (w : World) (hA : SlAt w A (bys b)) (hc : b.length ≤ c) (hb : b.length ≤ 100000) :
    Calls Try.prog 55 #[.agg (bys k).toArray, .agg (bys nn).toArray, vU32 nu, .slice A b.length c] w fun e w' => ∃ v, e = .returned v ∧ St [] w [.row 5 1 v b.length (bys (turnB k nn nu b))] w' := by
  refine enter (n := 45) (R := fun e L => ∃ v M, e = .returned v ∧ L = .row 5 1 v b.length (bys (turnB k nn nu b)) :: M) [.agg (bys k).toArray, .agg (bys nn).toArray, vU32 nu, .slice A b.length c] Try.func55 rfl rfl rfl (St.refl w) ?_ endRow
  refine VC_seq ?_
  refine VC_region ?_
  refine l_boxA rfl rfl ?_
  intro b4
  refine l_boxA rfl rfl ?_
  intro b5
  refine vl_v (q_assign rfl) rfl ?_
  refine vl_nil ?_
  refine (th_n ?_)
  refine VC_seq ?_
  refine VC_region ?_
  refine vl_v (q_move rfl) rfl ?_
  refine vl_v (q_lenS Try.underlying24 rfl) rfl ?_
  refine l_room Try.underlying24 in5 rfl rfl (by first | omega | with_reducible assumption | (simp only [zb, zu, zw, zi, za]; omega) | (simp only [zs, zr, zm, za, zb, zu, zw, zi, zt, zd, zc, zn, *] <;> first | done | omega) | rfl) (by unfold maxLen; omega) rfl ?_
  intro v16
  refine vl_v (q_assign rfl) rfl ?_
  refine vl_nil ?_
  refine (th_n ?_)
  refine VC_seq ?_
  refine VC_block ?_
  refine VC_loop (ι := Nat × Option Addr × Nat × Value) (fun q => SlAt w q.2.1 (bys (b.drop (64 * q.1))) ∧ b.length - 64 * q.1 ≤ q.2.2.1) (fun q => [(2, vU32 (nu + UInt32.ofNat q.1)), (3, .slice q.2.1 (b.length - 64 * q.1) q.2.2.1), (4, vP b4 0), (5, vP b5 0), (9, q.2.2.2)]) (fun q => [.row 5 1 q.2.2.2 (min (64 * q.1) b.length) (bys (tb (ks k nn nu) b (min (64 * q.1) b.length))), .blk b5 90 (bys nn), .blk b4 23 (bys k)]) (fun q => b.length - 64 * q.1) (0, A, c, v16) (⟨hA, by omega⟩) (Sub.cons (s := 2) (by rw [show nu + UInt32.ofNat 0 = nu from UInt32.add_zero nu]; rfl) (Sub.cons (s := 3) rfl (Sub.cons (s := 4) rfl (Sub.cons (s := 5) rfl (Sub.cons (s := 9) rfl (Sub.nil _)))))) (fun w' H => H.pick (ks := [0, 1, 2]) (by decide) (by simp [PBYtkadnmoephkklaa.pick, tb, bys])) ?_
  rintro ⟨j, B, d, v⟩ hp
  obtain ⟨hB, hd⟩ := hp
  simp only at hB hd
  refine VC_seq ?_
  refine VC_seq ?_
  refine VC_region ?_
  refine vl_v (q_move rfl) rfl ?_
  refine vl_v (q_lenS Try.underlying24 rfl) rfl ?_
  first | (refine vl_v (q_gtr_n (q := 0) Try.underlying3 rfl rfl) rfl ?_) | (refine vl_v (q_gtr_k Try.underlying3 rfl rfl) rfl ?_)
  refine vl_nil ?_
  refine (th_n ?_)
  refine VC_cond rfl (fun ht19 => ?_) (fun ht19 => ?_)
  · skip
    have ht19 := of_decide_eq_true ht19
    have hbl := ks_length k nn nu j
    have hbk := block_length k nn (nu + UInt32.ofNat j)
    have hB2 : SlAt w (adv B (min (b.length - 64 * j) 64) d 1) (bys (b.drop (64 * (j + 1)))) := by
      have := hB.adv (l := min (b.length - 64 * j) 64) (m := d) (sz := 1) (by rw [bys_length, List.length_drop]; omega)
      rw [bys_drop, List.drop_drop, Nat.mul_one] at this
      by_cases h64 : 64 ≤ b.length - 64 * j
      · rw [show 64 * j + min (b.length - 64 * j) 64 = 64 * (j + 1) by omega] at this; exact this
      · rw [List.drop_eq_nil_of_le (by omega)] at this; rw [List.drop_eq_nil_of_le (by omega)]; exact this
    refine VC_skip ?_
    refine (th_n ?_)
    refine VC_seq ?_
    refine VC_block ?_
    refine VC_seq ?_
    refine VC_region ?_
    first | (refine vl_v (q_loads 2 Try.underlying23 rfl rfl rfl sz23 (by first | omega | with_reducible assumption | (simp only [zb, zu, zw, zi, za]; omega) | (simp only [zs, zr, zm, za, zb, zu, zw, zi, zt, zd, zc, zn, *] <;> first | done | omega) | rfl)) rfl ?_) | (refine vl_v (q_loadsAt 2 Try.underlying23 rfl rfl rfl sz23 (by rfl) (by first | omega | with_reducible assumption | (simp only [zb, zu, zw, zi, za]; omega) | (simp only [zs, zr, zm, za, zb, zu, zw, zi, zt, zd, zc, zn, *] <;> first | done | omega) | rfl)) rfl ?_)
    first | (refine vl_v (q_loads 1 Try.underlying90 rfl rfl rfl sz90 (by first | omega | with_reducible assumption | (simp only [zb, zu, zw, zi, za]; omega) | (simp only [zs, zr, zm, za, zb, zu, zw, zi, zt, zd, zc, zn, *] <;> first | done | omega) | rfl)) rfl ?_) | (refine vl_v (q_loadsAt 1 Try.underlying90 rfl rfl rfl sz90 (by rfl) (by first | omega | with_reducible assumption | (simp only [zb, zu, zw, zi, za]; omega) | (simp only [zs, zr, zm, za, zb, zu, zw, zi, zt, zd, zc, zn, *] <;> first | done | omega) | rfl)) rfl ?_)
    refine vl_v (q_move rfl) rfl ?_
    refine vl_v (q_callV Try.func65 rfl rfl rfl (fun w1 H1 => block_calls k nn (nu + UInt32.ofNat j) hk hn w1)) rfl ?_
    refine l_allocA zr64 rfl ?_
    intro b10
    refine l_storeA 0 rfl rfl rfl sz64 (by first | omega | with_reducible assumption | (simp only [zb, zu, zw, zi, za]; omega) | (simp only [zs, zr, zm, za, zb, zu, zw, zi, zt, zd, zc, zn, *] <;> first | done | omega) | rfl) (by first | (with_reducible first | exact bys_one _ | exact u32s_one _ | exact u64s_one _ | exact i64s_one _ | exact n64s_one _ | assumption) | exact bys_one _ | exact u32s_one _ | exact u64s_one _ | exact i64s_one _ | exact one_all rfl | (refine app_one ?_ ?_ <;> first | exact bys_one _ | (simp; done))) (by first | omega | with_reducible assumption | (simp only [zb, zu, zw, zi, za]; omega) | (simp only [zs, zr, zm, za, zb, zu, zw, zi, zt, zd, zc, zn, *] <;> first | done | omega) | rfl) ?_
    simp only [List.set_cons_zero, List.set_cons_succ]
    refine vl_nil ?_
    refine (th_n ?_)
    refine VC_seq ?_
    refine VC_region ?_
    refine vl_v (q_move rfl) rfl ?_
    refine vl_v (q_lenS Try.underlying24 rfl) rfl ?_
    first | (refine vl_v (q_min (q := 64) rfl rfl) rfl ?_) | (refine vl_v (q_minI rfl rfl) rfl ?_)
    refine vl_v (q_assign rfl) rfl ?_
    refine vl_nil ?_
    refine (th_n ?_)
    refine VC_seq ?_
    have e1 : ((b.drop (64 * j)).take (min (b.length - 64 * j) 64)).length = min (b.length - 64 * j) 64 := by rw [List.length_take, List.length_drop]; omega
    have e2 : ((ks k nn nu j).take (min (b.length - 64 * j) 64)).length = min (b.length - 64 * j) 64 := by rw [List.length_take, hbl]; omega
    refine VC_drawM 10 [[], [], [0, 1], [], [3], [2, 4], [5], [6], [6], [7, 5, 0, 1, 2, 3, 4, 6], [8, 9, 0, 1, 2, 3, 4, 5, 6, 7]] [[], [], [0, 1], [], [3], [0, 1, 2, 3, 4], [0, 1, 2, 3, 4, 5], [0, 1, 2, 3, 4, 5, 6], [0, 1, 2, 3, 4, 5, 6], [0, 1, 2, 3, 4, 5, 6, 7], [0, 1, 2, 3, 4, 5, 6, 7, 8, 9]] rfl (by kernel_rfl) ?_
    refine qm_v (fun xs hx => q_move rfl) ?_
    refine qm_v (fun xs hx => q_move rfl) ?_
    refine qm_v (fun xs hx => q_slcS0 Try.underlying24 sz5 rfl ⟨_, rfl⟩ rfl (.inl rfl) (by omega) (by omega)) ?_
    refine qm_v (fun xs hx => q_move rfl) ?_
    refine qm_v (fun xs hx => q_slcA Try.underlying64 sz5 rfl rfl ⟨_, rfl⟩ rfl (.inl rfl) (by omega) (by omega) (by omega) (by omega) (by (try simp only [Nat.mul_one, Nat.zero_add, Nat.zero_mul, Nat.mul_zero, Nat.add_zero]) <;> rfl)) ?_
    refine qm_a (fun xs hx => q_callT Try.func66 rfl rfl rfl (fun w1 H1 => by have h := xor_calls ((b.drop (64 * j)).take (min (b.length - 64 * j) 64)) ((ks k nn nu j).take (min (b.length - 64 * j) 64)) B (some ⟨b10, 0, none⟩) d 64 w1 (by rw [← bys_take]; exact (Reads.old hB w1 H1).take _) (by rw [← bys_take]; exact ((H1.blk (k := 0) rfl).sl0).take _) (by rw [e1]; omega) (by rw [e2]; omega) (by rw [e1]; omega) (by rw [e1, e2]); rw [e1, e2] at h; exact h)) ?_
    refine qm_x [5] (fun ys => ys 5) rfl (fun xs => trivial) (fun xs hx => q_move rfl) ?_
    refine qm_x [5] (fun ys => tupAt (ys 5) 0) rfl (fun xs => trivial) (fun xs hx => q_extX rfl (let ⟨_, _, h, _⟩ := hx.1 rfl; ⟨_, _, h, rfl⟩)) ?_
    refine qm_x [5] (fun ys => tupAt (ys 5) 1) rfl (fun xs => trivial) (fun xs hx => q_extX rfl (let ⟨_, _, h, _⟩ := hx.1 rfl; ⟨_, _, h, rfl⟩)) ?_
    refine qm_x [5] (fun ys => tupAt (ys 5) 0) rfl (fun xs => trivial) (fun xs hx => q_assign rfl) ?_
    refine qm_end ?_
    intro xs hx
    obtain ⟨⟨A35, c35, e35, hc35, hm35⟩, _⟩ := hx
    simp only [show mask [5] xs 5 = xs 5 from rfl, e35, tupAt_0, tupAt_1]
    simp only [resT, nRow, nBlk, nRowT, tupAt_0, List.append_assoc, List.nil_append, List.append_nil, List.cons_append, List.singleton_append, e35]
    refine VL.keep (Sub.cons (s := 2) rfl (Sub.cons (s := 3) rfl (Sub.cons (s := 4) rfl (Sub.cons (s := 5) rfl (Sub.cons (s := 9) rfl (Sub.cons (s := 19) rfl (Sub.cons (s := 10) rfl (Sub.cons (s := 11) rfl (Sub.cons (s := 37) rfl (Sub.cons (s := 12) rfl (Sub.nil _))))))))))) ?_
    refine vl_v (q_assign rfl) rfl ?_
    refine vl_nil ?_
    refine (qn_n (th_n ?_))
    refine VC_seq ?_
    refine VC_region ?_
    have hxl : (bys (xorB ((b.drop (64 * j)).take (min (b.length - 64 * j) 64)) ((ks k nn nu j).take (min (b.length - 64 * j) 64)))).length = min (b.length - 64 * j) 64 * 1 := by rw [bys_length]; simp [xorB]; omega
    refine vl_v (q_move rfl) rfl ?_
    refine vl_v (q_move rfl) rfl ?_
    refine l_append 2 rfl rfl rfl Try.underlying24 Try.underlying24 in5 rfl (by decide) (Reads.row 0 rfl) (by first | omega | with_reducible assumption | (simp only [zb, zu, zw, zi, za]; omega) | (simp only [zs, zr, zm, za, zb, zu, zw, zi, zt, zd, zc, zn, *] <;> first | done | omega) | rfl) (by first | (with_reducible first | exact bys_one _ | exact u32s_one _ | exact u64s_one _ | exact i64s_one _ | exact n64s_one _ | assumption) | exact bys_one _ | exact u32s_one _ | exact u64s_one _ | exact i64s_one _ | exact one_all rfl | (refine app_one ?_ ?_ <;> first | exact bys_one _ | (simp; done))) (by first | omega | with_reducible assumption | (simp only [zb, zu, zw, zi, za]; omega) | (simp only [zs, zr, zm, za, zb, zu, zw, zi, zt, zd, zc, zn, *] <;> first | done | omega) | rfl) (by first | omega | with_reducible assumption | (simp only [zb, zu, zw, zi, za]; omega) | (simp only [zs, zr, zm, za, zb, zu, zw, zi, zt, zd, zc, zn, *] <;> first | done | omega) | rfl) rfl ?_
    intro A40 c40 hc40
    simp only [List.set_cons_zero, List.set_cons_succ, ← bys_append, ← u32s_append, ← u64s_append, ← i64s_append, List.nil_append, Nat.zero_add]
    rw [show min (64 * j) b.length = 64 * j by omega, tb_chunk (ks k nn nu) (ks_length k nn nu) b j _ (by omega) (by omega)]
    refine vl_v (q_assign rfl) rfl ?_
    refine vl_nil ?_
    refine (th_n ?_)
    refine VC_region ?_
    refine vl_v (q_move rfl) rfl ?_
    refine vl_v (q_move rfl) rfl ?_
    refine vl_v (q_slcS Try.underlying24 sz5 rfl ⟨_, rfl⟩ rfl rfl (.inl rfl) (by omega) (by omega) (by omega)) rfl ?_
    refine vl_v (q_assign rfl) rfl ?_
    refine vl_nil ?_
    refine (bl_n (th_n ?_))
    refine VC_region ?_
    refine vl_v (q_move rfl) rfl ?_
    refine vl_v (q_add_u32 (q := UInt32.ofNat 1) rfl rfl) rfl ?_
    refine vl_v (q_assign rfl) rfl ?_
    refine vl_nil ?_
    refine (th_n ?_)
    rw [show 64 * j + min (b.length - 64 * j) 64 = min (64 * (j + 1)) b.length by omega]
    refine ⟨(j + 1, adv B (min (b.length - 64 * j) 64) d 1, d - min (b.length - 64 * j) 64, Value.slice A40 (min (64 * (j + 1)) b.length) c40), ⟨hB2, by simp only; omega⟩, by simp only; omega, (Sub.cons (s := 2) (by show _ = some (vU32 (nu + UInt32.ofNat (j + 1))); rw [← ofNat_succ32 nu j]; rfl) (Sub.cons (s := 3) (by show _ = some (Value.slice _ (b.length - 64 * (j + 1)) _); rw [show b.length - 64 * (j + 1) = b.length - 64 * j - min (b.length - 64 * j) 64 by omega]; rfl) (Sub.cons (s := 4) rfl (Sub.cons (s := 5) rfl (Sub.cons (s := 9) rfl (Sub.nil _)))))), fun w H => St.pick H (ks := [2, 3, 4]) (by decide) rfl⟩
  · skip
    have ht19 := of_decide_eq_false ht19
    refine VC_exit ?_
    refine (th_x (th_x (bl_xs (th_n ?_))))
    refine VC_seq ?_
    refine VC_region ?_
    refine vl_v (q_move rfl) rfl ?_
    refine vl_v (q_assign rfl) rfl ?_
    refine vl_nil ?_
    refine (th_n ?_)
    refine VC_ret ?_
    refine ⟨_, res1 rfl rfl, ?_⟩
    refine ⟨v, [.blk b5 90 (bys nn), .blk b4 23 (bys k)], rfl, ?_⟩
    simp only at ht19 ⊢
    rw [show min (64 * j) b.length = b.length by omega]
    rfl
end Go.Proofs.Ytkadnmoephkklaa
