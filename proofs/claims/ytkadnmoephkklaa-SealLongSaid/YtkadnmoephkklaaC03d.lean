/- What the functions of package blake do: the tag of bytes. Conditions: lengths. -/
import Derived.Test.YtkadnmoephkklaaC03c
namespace Go.Proofs.Ytkadnmoephkklaa
open Go.RowKit Go.PBYtkadnmoephkklaa
set_option linter.unusedVariables false
set_option linter.unusedSimpArgs false
set_option maxRecDepth 10000

set_option maxHeartbeats 2000000 in
theorem mac_calls (key b : List UInt8) (A B : Option Addr) (ca cb ka : Nat) (hka : ka = key.length) (h0 : 0 < key.length) (hk : key.length ≤ 32) (hb : b.length ≤ 1000000) (w : World) (hA : SlAt w A (bys key)) (hB : SlAt w B (bys b)) (hca : key.length ≤ ca) (hcb : b.length ≤ cb) :
    Calls Try.prog 24 #[.slice A ka ca, .slice B b.length cb] w fun e w' => e = .returned (.tuple #[.agg (bys (macB key b)).toArray, .int .i64 0]) ∧ Kept [] w w' := by
  subst hka
  have hN := allK_length b h0 hk
  have hpk := padB_length (l := key) (by omega)
  obtain ⟨al, hal⟩ : ∃ al, al = allK key b := ⟨_, rfl⟩
  rw [← hal] at hN
  have hal' := hal
  rw [allK_eq b h0] at hal'
  refine enter (n := 71) (R := fun e L => e = .returned (.tuple #[.agg (bys (macB key b)).toArray, .int .i64 0])) [.slice A key.length ca, .slice B b.length cb] Try.func24 rfl rfl rfl (St.refl w) ?_ (fun e w' L' h H => ⟨h, H.kept⟩)
  refine VC_seq ?_
  refine VC_region ?_
  refine l_allocA zr23 rfl ?_
  intro b4
  refine vl_v (q_assign rfl) rfl ?_
  refine vl_nil ?_
  refine (th_n ?_)
  refine VC_seq ?_
  refine VC_seq ?_
  refine VC_region ?_
  refine vl_v (q_move rfl) rfl ?_
  refine vl_v (q_lenS Try.underlying24 rfl) rfl ?_
  first | (refine vl_v (q_gtr_n (q := 32) Try.underlying3 rfl rfl) rfl ?_) | (refine vl_v (q_gtr_k Try.underlying3 rfl rfl) rfl ?_)
  refine vl_nil ?_
  refine (th_n ?_)
  refine VC_cond rfl (fun ht14 => ?_) (fun ht14 => ?_)
  · skip
    have ht14 := of_decide_eq_true ht14
    exfalso; omega
  · skip
    have ht14 := of_decide_eq_false ht14
    refine VC_skip ?_
    refine (th_n ?_)
    refine VC_seq ?_
    refine VC_region ?_
    refine vl_v (q_callV Try.func41 rfl rfl rfl (fun w1 H1 => first_calls w1)) rfl ?_
    refine l_allocA zr58 rfl ?_
    intro b6
    refine l_storeA 0 rfl rfl rfl sz58 (by first | omega | with_reducible assumption | (simp only [zb, zu, zw, zi, za]; omega) | (simp only [zs, zr, zm, za, zb, zu, zw, zi, zt, zd, zc, zn, *] <;> first | done | omega) | rfl) (by first | (with_reducible first | exact bys_one _ | exact u32s_one _ | exact u64s_one _ | exact i64s_one _ | exact n64s_one _ | assumption) | exact bys_one _ | exact u32s_one _ | exact u64s_one _ | exact i64s_one _ | exact one_all rfl | (refine app_one ?_ ?_ <;> first | exact bys_one _ | (simp; done))) (by first | omega | with_reducible assumption | (simp only [zb, zu, zw, zi, za]; omega) | (simp only [zs, zr, zm, za, zb, zu, zw, zi, zt, zd, zc, zn, *] <;> first | done | omega) | rfl) ?_
    simp only [List.set_cons_zero, List.set_cons_succ]
    refine vl_nil ?_
    refine (th_n ?_)
    refine VC_seq ?_
    refine VC_region ?_
    first | (refine vl_v (q_idxA (m := 0) Try.underlying58 sz56 rfl rfl (by omega) (r := _) (by rw [Nat.mul_one, Nat.zero_add])) rfl ?_) | (refine vl_v (q_idxA (m := 0) Try.underlying58 sz56 rfl rfl (by omega) rfl) rfl ?_)
    refine vl_v (q_load 0 Try.underlying56 rfl rfl rfl (u32s_at (by decide))) rfl ?_
    refine vl_v (q_move rfl) rfl ?_
    refine vl_v (q_lenS Try.underlying24 rfl) rfl ?_
    refine vl_v (q_conv_nu32 Try.underlying3 Try.underlying56 rfl) rfl ?_
    refine vl_v (q_shl_u32 (m := 8) rfl rfl) rfl ?_
    refine vl_v (q_xor_u32 (p := UInt32.ofNat 16842784) rfl rfl) rfl ?_
    refine vl_v (q_xor_u32 rfl rfl) rfl ?_
    first | (refine vl_v (q_idxA (m := 0) Try.underlying58 sz56 rfl rfl (by omega) (r := _) (by rw [Nat.mul_one, Nat.zero_add])) rfl ?_) | (refine vl_v (q_idxA (m := 0) Try.underlying58 sz56 rfl rfl (by omega) rfl) rfl ?_)
    refine l_stU32 0 rfl rfl rfl sz56 (by decide) ?_
    simp only [List.set_cons_zero, List.set_cons_succ]
    rw [show iv.set 0 (iv.getD 0 0 ^^^ (UInt32.ofNat 16842784 ^^^ UInt32.ofNat ((UInt32.ofNat key.length).toNat * 2 ^ (min 8 32)))) = hKey key.length from rfl]
    refine vl_nil ?_
    refine (th_n ?_)
    refine VC_seq ?_
    refine VC_region ?_
    refine vl_v (q_assign rfl) rfl ?_
    refine vl_nil ?_
    refine (th_n ?_)
    refine VC_seq ?_
    refine VC_seq ?_
    refine VC_region ?_
    refine vl_v (q_move rfl) rfl ?_
    refine vl_v (q_lenS Try.underlying24 rfl) rfl ?_
    first | (refine vl_v (q_gtr_n (q := 0) Try.underlying3 rfl rfl) rfl ?_) | (refine vl_v (q_gtr_k Try.underlying3 rfl rfl) rfl ?_)
    refine vl_nil ?_
    refine (th_n ?_)
    refine VC_cond rfl (fun ht28 => ?_) (fun ht28 => ?_)
    · skip
      have ht28 := of_decide_eq_true ht28
      refine VC_seq ?_
      refine VC_region ?_
      refine l_makeZ (m := 64) Try.underlying24 in5 rfl rfl rfl (by omega) (by unfold maxLen; omega) rfl (repB _) ?_
      intro b29
      refine vl_v (q_assign rfl) rfl ?_
      refine vl_nil ?_
      refine (th_n ?_)
      refine VC_region ?_
      refine vl_v (q_move rfl) rfl ?_
      refine vl_v (q_move rfl) rfl ?_
      refine l_copy 0 rfl rfl rfl Try.underlying24 Try.underlying24 sz5 (Reads.old hA) (by first | omega | with_reducible assumption | (simp only [zb, zu, zw, zi, za]; omega) | (simp only [zs, zr, zm, za, zb, zu, zw, zi, zt, zd, zc, zn, *] <;> first | done | omega) | rfl) (by first | (with_reducible first | exact bys_one _ | exact u32s_one _ | exact u64s_one _ | exact i64s_one _ | exact n64s_one _ | assumption) | exact bys_one _ | exact u32s_one _ | exact u64s_one _ | exact i64s_one _ | exact one_all rfl | (refine app_one ?_ ?_ <;> first | exact bys_one _ | (simp; done))) (by first | omega | with_reducible assumption | (simp only [zb, zu, zw, zi, za]; omega) | (simp only [zs, zr, zm, za, zb, zu, zw, zi, zt, zd, zc, zn, *] <;> first | done | omega) | rfl) rfl ?_
      simp only [List.set_cons_zero, List.set_cons_succ]
      rw [cp3 key (by omega)]
      refine vl_nil ?_
      refine (th_n ?_)
      refine VC_seq ?_
      refine VC_toRow (m := 64) (by rw [bys_length, hpk]) (by unfold maxLen; omega) ?_
      refine VC_region ?_
      refine vl_v (q_move rfl) rfl ?_
      refine vl_v (q_move rfl) rfl ?_
      refine l_append 0 rfl rfl rfl Try.underlying24 Try.underlying24 in5 rfl (by decide) (Reads.old hB) (by first | omega | with_reducible assumption | (simp only [zb, zu, zw, zi, za]; omega) | (simp only [zs, zr, zm, za, zb, zu, zw, zi, zt, zd, zc, zn, *] <;> first | done | omega) | rfl) (by first | (with_reducible first | exact bys_one _ | exact u32s_one _ | exact u64s_one _ | exact i64s_one _ | exact n64s_one _ | assumption) | exact bys_one _ | exact u32s_one _ | exact u64s_one _ | exact i64s_one _ | exact one_all rfl | (refine app_one ?_ ?_ <;> first | exact bys_one _ | (simp; done))) (by first | omega | with_reducible assumption | (simp only [zb, zu, zw, zi, za]; omega) | (simp only [zs, zr, zm, za, zb, zu, zw, zi, zt, zd, zc, zn, *] <;> first | done | omega) | rfl) (by first | omega | with_reducible assumption | (simp only [zb, zu, zw, zi, za]; omega) | (simp only [zs, zr, zm, za, zb, zu, zw, zi, zt, zd, zc, zn, *] <;> first | done | omega) | rfl) rfl ?_
      intro A35 c35 hc35
      simp only [List.set_cons_zero, List.set_cons_succ, ← bys_append, ← u32s_append, ← u64s_append, ← i64s_append, List.nil_append, Nat.zero_add]
      rw [← hal']
      refine vl_v (q_assign rfl) rfl ?_
      refine vl_nil ?_
      refine (th_n ?_)
      refine VC_seq ?_
      refine VC_rowBlk (by omega) ?_
      intro bA more eA
      subst eA
      refine VC_region ?_
      refine vl_v (q_assign rfl) rfl ?_
      refine vl_nil ?_
      refine (th_n ?_)
      refine VC_seq ?_
      refine VC_block ?_
      refine VC_loop (ι := Nat) (fun j => 64 * j < al.length) (fun j => [(1, .slice B b.length cb), (4, vP b4 0), (5, .int .i64 0), (6, vP b6 0), (7, .slice (some ⟨bA, 64 * j, none⟩) (64 + b.length - 64 * j) (c35 - 64 * j)), (8, vU64 (UInt64.ofNat (64 * j)))]) (fun j => [.blk b6 58 (u32s (hs (hKey key.length) al j)), .blk bA 5 (bys al ++ more), .blk b4 23 (bys (List.replicate 32 0))]) (fun j => al.length - 64 * j) 0 (by omega) (Sub.cons (s := 1) rfl (Sub.cons (s := 4) rfl (Sub.cons (s := 5) rfl (Sub.cons (s := 6) rfl (Sub.cons (s := 7) rfl (Sub.cons (s := 8) rfl (Sub.nil _))))))) (fun w H => St.pick H (ks := [1, 0, 2]) (by decide) rfl) ?_
      rintro j hp
      have hhl := (hs_length (hKey key.length) al j).trans (hKey_length key.length)
      refine VC_seq ?_
      refine VC_seq ?_
      refine VC_region ?_
      refine vl_v (q_move rfl) rfl ?_
      refine vl_v (q_lenS Try.underlying24 rfl) rfl ?_
      first | (refine vl_v (q_gtr_n (q := 64) Try.underlying3 rfl rfl) rfl ?_) | (refine vl_v (q_gtr_k Try.underlying3 rfl rfl) rfl ?_)
      refine vl_nil ?_
      refine (th_n ?_)
      refine VC_cond rfl (fun ht38 => ?_) (fun ht38 => ?_)
      · skip
        have ht38 := of_decide_eq_true ht38
        refine VC_skip ?_
        refine (th_n ?_)
        refine VC_block ?_
        refine VC_seq ?_
        refine VC_region ?_
        refine vl_v (q_move rfl) rfl ?_
        refine vl_v (q_as (v := vU64 (UInt64.ofNat (64 * (j + 1)))) (q_add_u64 (q := UInt64.ofNat 64) rfl rfl) (by rw [ofNat64_add, show 64 * (j + 1) = 64 * j + 64 by omega])) rfl ?_
        refine vl_v (q_assign rfl) rfl ?_
        refine vl_nil ?_
        refine (th_n ?_)
        refine VC_seq ?_
        refine VC_region ?_
        refine vl_v (q_move rfl) rfl ?_
        refine vl_v (q_s2a Try.underlying64 rfl (by first | omega | with_reducible assumption | (simp only [zb, zu, zw, zi, za]; omega) | (simp only [zs, zr, zm, za, zb, zu, zw, zi, zt, zd, zc, zn, *] <;> first | done | omega) | rfl)) rfl ?_
        refine vl_v (q_move rfl) rfl ?_
        refine l_callE Try.func42 rfl rfl rfl (fun w1 H1 => into_false (hs (hKey key.length) al j) ((al.drop (64 * j)).take 64) (UInt64.ofNat (64 * (j + 1))) b6 bA (64 * j) hhl (by rw [List.length_take, List.length_drop]; omega) (chunkPart (by omega)) w1 H1) rfl ?_
        refine vl_nil ?_
        refine (th_n ?_)
        refine VC_region ?_
        refine vl_v (q_move rfl) rfl ?_
        refine vl_v (q_slcSb (l := 64) (r := 64 * (j + 1)) Try.underlying24 sz5 rfl ⟨_, rfl⟩ rfl rfl (.inl rfl) (by omega) (by omega) (by omega) (by omega) (by omega)) rfl ?_
        refine vl_v (q_assign rfl) rfl ?_
        refine vl_nil ?_
        refine (bl_n (th_n ?_))
        refine ⟨j + 1, by omega, by omega, (Sub.cons (s := 1) rfl (Sub.cons (s := 4) rfl (Sub.cons (s := 5) rfl (Sub.cons (s := 6) rfl (Sub.cons (s := 7) (by show _ = some (Value.slice _ (64 + b.length - 64 * (j + 1)) (c35 - 64 * (j + 1))); rw [show 64 + b.length - 64 * (j + 1) = 64 + b.length - 64 * j - 64 by omega, show c35 - 64 * (j + 1) = c35 - 64 * j - 64 by omega]; rfl) (Sub.cons (s := 8) rfl (Sub.nil _))))))), fun w H => H⟩
      · skip
        have ht38 := of_decide_eq_false ht38
        have hj : j = (al.length - 1) / 64 := by omega
        have hdl : (al.drop (64 * j)).length = 64 + b.length - 64 * j := by rw [List.length_drop]; omega
        have hdl' : (bys (al.drop (64 * j))).length = 64 + b.length - 64 * j := by rw [bys_length]; exact hdl
        refine VC_exit ?_
        refine (th_x (th_x (bl_xs (th_n ?_))))
        refine VC_seq ?_
        refine VC_region ?_
        refine l_allocA zr64 rfl ?_
        intro b9
        refine vl_nil ?_
        refine (th_n ?_)
        refine VC_seq ?_
        refine VC_region ?_
        refine vl_v (q_move rfl) rfl ?_
        refine vl_v (q_slcA Try.underlying64 sz5 rfl rfl rfl rfl (.inl rfl) (by omega) (by omega) (by omega) (by omega) (by (try simp only [Nat.mul_one, Nat.zero_add, Nat.zero_mul, Nat.mul_zero, Nat.add_zero]) <;> rfl)) rfl ?_
        refine vl_v (q_move rfl) rfl ?_
        refine l_copy 0 rfl rfl rfl Try.underlying24 Try.underlying24 sz5 (Reads.blkTake 2 (64 * j) (al.length - 64 * j) rfl (restPart (by omega))) (by first | omega | with_reducible assumption | (simp only [zb, zu, zw, zi, za]; omega) | (simp only [zs, zr, zm, za, zb, zu, zw, zi, zt, zd, zc, zn, *] <;> first | done | omega) | rfl) (by first | (with_reducible first | exact bys_one _ | exact u32s_one _ | exact u64s_one _ | exact i64s_one _ | exact n64s_one _ | assumption) | exact bys_one _ | exact u32s_one _ | exact u64s_one _ | exact i64s_one _ | exact one_all rfl | (refine app_one ?_ ?_ <;> first | exact bys_one _ | (simp; done))) (by first | omega | with_reducible assumption | (simp only [zb, zu, zw, zi, za]; omega) | (simp only [zs, zr, zm, za, zb, zu, zw, zi, zt, zd, zc, zn, *] <;> first | done | omega) | rfl) rfl ?_
        simp only [List.set_cons_zero, List.set_cons_succ]
        rw [← hdl, cp3 (al.drop (64 * j)) (by omega)]
        refine vl_v (q_conv_nu64 Try.underlying3 Try.underlying61 rfl) rfl ?_
        refine vl_v (q_as (v := vU64 (UInt64.ofNat al.length)) (q_add_u64 rfl rfl) (by rw [ofNat64_add, hdl, show 64 * j + min (64 + b.length - 64 * j) 64 = al.length by omega])) rfl ?_
        refine vl_v (q_assign rfl) rfl ?_
        refine vl_nil ?_
        refine (th_n ?_)
        refine VC_seq ?_
        refine VC_region ?_
        refine vl_v (q_move rfl) rfl ?_
        refine l_callE Try.func42 rfl rfl rfl (fun w1 H1 => into_true (hs (hKey key.length) al j) (padB (al.drop (64 * j))) (UInt64.ofNat al.length) b6 b9 0 hhl (padB_length (by omega)) (by rw [List.drop_zero, List.take_of_length_le (by rw [bys_length, padB_length (by omega)]; omega)]) w1 (H1.pick (ks := [1, 0, 2, 3]) (by decide) rfl)) rfl ?_
        refine vl_nil ?_
        refine (th_n ?_)
        refine VC_seq ?_
        refine VC_region ?_
        rw [show into (hs (hKey key.length) al j) (padB (al.drop (64 * j))) (UInt64.ofNat al.length) true = hEnd (hKey key.length) al by rw [hEnd, ← hj]]
        have hel := (hEnd_length (hKey key.length) al).trans (hKey_length key.length)
        refine l_allocA zr23 rfl ?_
        intro b10
        refine vl_nil ?_
        refine (th_n ?_)
        refine VC_seq ?_
        refine VC_seq ?_
        refine VC_region ?_
        refine vl_v (q_move rfl) rfl ?_
        refine vl_nil ?_
        refine (th_n ?_)
        refine VC_block ?_
        refine VC_loop (ι := Nat) (fun z => z ≤ 32) (fun z => [(4, vP b4 0), (6, vP b6 0), (10, vP b10 0), (55, vN z)]) (fun z => [.blk b10 23 (bys (hOut (hEnd (hKey key.length) al) z)), .blk b6 58 (u32s (hEnd (hKey key.length) al)), .blk b4 23 (bys (List.replicate 32 0))]) (fun z => 32 - z) 0 (by omega) (Sub.cons (s := 4) rfl (Sub.cons (s := 6) rfl (Sub.cons (s := 10) rfl (Sub.cons (s := 55) rfl (Sub.nil _))))) (fun w H => St.pick H (ks := [0, 1, 4]) (by decide) rfl) ?_
        rintro z hp
        have hol := hOut_length (hEnd (hKey key.length) al) z
        refine VC_seq ?_
        refine VC_region ?_
        first | (refine vl_v (q_lss_n (q := 32) Try.underlying3 rfl rfl) rfl ?_) | (refine vl_v (q_lss_k Try.underlying3 rfl rfl) rfl ?_)
        refine vl_nil ?_
        refine (th_n ?_)
        refine VC_seq ?_
        refine VC_cond rfl (fun ht56 => ?_) (fun ht56 => ?_)
        · skip
          have ht56 := of_decide_eq_true ht56
          refine VC_skip ?_
          refine (th_n ?_)
          refine VC_seq ?_
          refine VC_block ?_
          refine VC_seq ?_
          refine VC_region ?_
          refine vl_v (q_move rfl) rfl ?_
          refine vl_v (q_assign rfl) rfl ?_
          refine vl_nil ?_
          refine (th_n ?_)
          refine VC_region ?_
          refine vl_v (q_move rfl) rfl ?_
          refine vl_v (q_move rfl) rfl ?_
          refine vl_v (q_quo_n (q := 4) rfl rfl (by omega) (by omega)) rfl ?_
          first | (refine vl_v (q_idxA Try.underlying58 sz56 rfl rfl (by omega) (r := _) (by rw [Nat.mul_one, Nat.zero_add])) rfl ?_) | (refine vl_v (q_idxA Try.underlying58 sz56 rfl rfl (by omega) rfl) rfl ?_)
          first | (refine vl_v (q_load 1 Try.underlying56 rfl rfl rfl (u32s_at (by first | omega | with_reducible assumption | (simp only [zb, zu, zw, zi, za]; omega) | (simp only [zs, zr, zm, za, zb, zu, zw, zi, zt, zd, zc, zn, *] <;> first | done | omega) | rfl))) rfl ?_) | (refine vl_v (q_load 1 Try.underlying56 rfl rfl rfl rfl) rfl ?_)
          refine vl_v (q_move rfl) rfl ?_
          refine vl_v (q_rem_n (q := 4) rfl rfl (by omega)) rfl ?_
          first | (refine vl_v (q_mul_n (q := 8) rfl rfl (by omega)) rfl ?_) | (refine vl_v (q_mul_i rfl rfl (by omega) (by omega)) rfl ?_)
          refine vl_v (q_shr_u32 rfl rfl) rfl ?_
          refine vl_v (q_conv_nu8 Try.underlying56 Try.underlying5 rfl) rfl ?_
          first | (refine vl_v (q_idxA Try.underlying23 sz5 rfl rfl (by omega) (r := _) (by rw [Nat.mul_one, Nat.zero_add])) rfl ?_) | (refine vl_v (q_idxA Try.underlying23 sz5 rfl rfl (by omega) rfl) rfl ?_)
          first | (refine l_stB 0 rfl rfl rfl sz5 (by first | omega | with_reducible assumption | (simp only [zb, zu, zw, zi, za]; omega) | (simp only [zs, zr, zm, za, zb, zu, zw, zi, zt, zd, zc, zn, *] <;> first | done | omega) | rfl) ?_) | (refine l_store1 0 rfl rfl rfl sz5 rfl (by first | decide | simp) ?_)
          simp only [List.set_cons_zero, List.set_cons_succ]
          refine vl_nil ?_
          refine (bl_n (th_n ?_))
          refine VC_region ?_
          first | (refine vl_v (q_add_n (q := 1) rfl rfl (by omega)) rfl ?_) | (refine vl_v (q_add_i rfl rfl (by omega) (by omega)) rfl ?_)
          refine vl_v (q_move rfl) rfl ?_
          refine vl_nil ?_
          refine (th_n ?_)
          refine ⟨z + 1, by omega, by omega, (Sub.cons (s := 4) rfl (Sub.cons (s := 6) rfl (Sub.cons (s := 10) rfl (Sub.cons (s := 55) rfl (Sub.nil _))))), fun w H => H⟩
        · skip
          have ht56 := of_decide_eq_false ht56
          obtain rfl : z = 32 := by omega
          rw [show hOut (hEnd (hKey key.length) al) 32 = macB key b by rw [macB, ← hal]]
          have hml := macB_length key b
          refine VC_exit ?_
          refine (th_x (th_x (bl_xs (th_n ?_))))
          refine VC_seq ?_
          refine VC_region ?_
          first | (refine vl_v (q_loads 0 Try.underlying23 rfl rfl rfl sz23 (by first | omega | with_reducible assumption | (simp only [zb, zu, zw, zi, za]; omega) | (simp only [zs, zr, zm, za, zb, zu, zw, zi, zt, zd, zc, zn, *] <;> first | done | omega) | rfl)) rfl ?_) | (refine vl_v (q_loadsAt 0 Try.underlying23 rfl rfl rfl sz23 (by rfl) (by first | omega | with_reducible assumption | (simp only [zb, zu, zw, zi, za]; omega) | (simp only [zs, zr, zm, za, zb, zu, zw, zi, zt, zd, zc, zn, *] <;> first | done | omega) | rfl)) rfl ?_)
          refine l_storeA 2 rfl rfl rfl sz23 (by first | omega | with_reducible assumption | (simp only [zb, zu, zw, zi, za]; omega) | (simp only [zs, zr, zm, za, zb, zu, zw, zi, zt, zd, zc, zn, *] <;> first | done | omega) | rfl) (by first | (with_reducible first | exact bys_one _ | exact u32s_one _ | exact u64s_one _ | exact i64s_one _ | exact n64s_one _ | assumption) | exact bys_one _ | exact u32s_one _ | exact u64s_one _ | exact i64s_one _ | exact one_all rfl | (refine app_one ?_ ?_ <;> first | exact bys_one _ | (simp; done))) (by first | omega | with_reducible assumption | (simp only [zb, zu, zw, zi, za]; omega) | (simp only [zs, zr, zm, za, zb, zu, zw, zi, zt, zd, zc, zn, *] <;> first | done | omega) | rfl) ?_
          simp only [List.set_cons_zero, List.set_cons_succ]
          refine vl_v (q_assign rfl) rfl ?_
          refine vl_nil ?_
          refine (th_n ?_)
          refine VC_ret ?_
          refine ⟨_, resC2 2 rfl Try.underlying23 rfl rfl rfl sz23 (by first | omega | with_reducible assumption | (simp only [zb, zu, zw, zi, za]; omega) | (simp only [zs, zr, zm, za, zb, zu, zw, zi, zt, zd, zc, zn, *] <;> first | done | omega) | rfl) rfl, ?_⟩
          exact rfl
    · skip
      have ht28 := of_decide_eq_false ht28
      exfalso; omega
end Go.Proofs.Ytkadnmoephkklaa
