/- Of keys that are put, those of the last eight are kept: the statement SkipsLast. No condition. -/
import Derived.Test.YtngdppffcdhhlaaRows
import Derived.Test.YtngdppffcdhhlaaS11c
namespace Go.Proofs.Ytngdppffcdhhlaa
open Go.RowKit Go.PBYtngdppffcdhhlaa
set_option linter.unusedVariables false
set_option linter.unusedSimpArgs false
set_option maxRecDepth 10000

def KeyV (v : Value) (k : List UInt8) : Prop := v = .agg (bys k).toArray ∧ k.length = 32
theorem open_key {cs : List Value} (h : Fits cs (List.replicate 32 .u8)) : ∃ k, KeyV (.agg cs.toArray) k := by
  obtain ⟨k, hk, rfl⟩ := h.bytes
  exact ⟨k, rfl, hk⟩
def K2 (i : Nat) : List UInt8 := UInt8.ofNat i :: 1 :: List.replicate 30 0
theorem K2_length (i : Nat) : (K2 i).length = 32 := by simp [K2]
theorem K2_build (i : Nat) : Try.prog.built 23 [(0, vU8 (UInt8.ofNat i)), (1, vU8 1)] = some (bys (K2 i)).toArray := by kernel_rfl
set_option maxHeartbeats 3000000 in
theorem last_good (p : List UInt8) (n : Nat) (lp : p.length = 32) (hn : n ≤ 40) (w : World) :
    Calls Try.prog 4 #[.agg (bys p).toArray, vN n] w fun e w' => e = .returned (.bool true) ∧ Kept [] w w' := by
  have lK := K2_length
  refine enter (n := 84) (R := fun e L => e = .returned (.bool true)) [.agg (bys p).toArray, vN n] Try.func4 rfl rfl rfl (St.refl w) ?_ (fun e w' L' h H => ⟨h, H.kept⟩)
  refine VC_seq ?_
  refine VC_region ?_
  refine l_boxA rfl rfl ?_
  intro b2
  refine vl_v (q_assign rfl) rfl ?_
  refine vl_nil ?_
  refine (th_n ?_)
  refine VC_seq ?_
  refine VC_region ?_
  refine vl_v (q_callV Try.func8 rfl rfl rfl (fun w1 H1 => awake11_calls w1)) rfl ?_
  refine vl_v (q_assign rfl) rfl ?_
  refine vl_nil ?_
  refine (th_n ?_)
  refine VC_seq ?_
  refine VC_region ?_
  refine l_call (F := fun v L' => ∃ bS' mm oo AA cc, v = vP bS' 0 ∧ MapOf oo (mapE []) ∧ L' = SkR bS' mm oo AA cc [] ++ [.blk b2 23 (bys (p))]) Try.func9 rfl rfl rfl (fun w1 H1 => (new_calls w1).mono fun e w' h => ?_) rfl ?_
  · obtain ⟨bS', mm, h1, oo, AA, cc, hE, h2⟩ := h
    rw [List.append_nil] at h2
    exact ⟨_, _, h1, ⟨bS', mm, oo, AA, cc, rfl, hE, rfl⟩, (H1.join h2).perm List.perm_append_comm⟩
  rintro v L' ⟨bS, m1, o0, A0, c0, rfl, hE0, rfl⟩
  simp only [SkR, List.cons_append, List.nil_append, List.append_nil]
  refine vl_v (q_assign rfl) rfl ?_
  refine vl_nil ?_
  refine (th_n ?_)
  refine VC_seq ?_
  refine VC_seq ?_
  refine VC_region ?_
  refine vl_v (q_move rfl) rfl ?_
  refine vl_v (q_eqPN Try.underlying26 rfl rfl) rfl ?_
  refine vl_v (q_move rfl) rfl ?_
  refine vl_vg rfl (q_move rfl) rfl ?_
  refine vl_vg rfl (q_false (q_lss_n (q := 0) Try.underlying3 rfl rfl) (by simp)) rfl ?_
  first | (refine vl_v (q_pickT rfl rfl) rfl ?_) | (refine vl_v (q_pickF rfl rfl) rfl ?_)
  refine vl_v (q_move rfl) rfl ?_
  refine vl_vg rfl (q_move rfl) rfl ?_
  refine vl_vg rfl (q_false (q_gtr_n (q := 40) Try.underlying3 rfl rfl) (by simp; omega)) rfl ?_
  first | (refine vl_v (q_pickT rfl rfl) rfl ?_) | (refine vl_v (q_pickF rfl rfl) rfl ?_)
  refine vl_nil ?_
  refine (th_n ?_)
  refine VC_no (rfl) ?_
  refine VC_skip ?_
  refine (th_n ?_)
  refine VC_seq ?_
  refine VC_seq ?_
  refine VC_region ?_
  refine vl_v (q_assign rfl) rfl ?_
  refine vl_nil ?_
  refine (th_n ?_)
  refine VC_block ?_
  refine VC_loop (ι := Nat × Obj × Option Addr × Nat) (fun x => x.1 ≤ n ∧ MapOf x.2.1 (mapE (lastL (ents p 0 K2 x.1)))) (fun x => [(1, vN n), (2, vP b2 0), (5, .bool true), (6, vP bS 0), (7, vN x.1)]) (fun x => SkR bS m1 x.2.1 x.2.2.1 x.2.2.2 (lastL (ents p 0 K2 x.1)) ++ [.blk b2 23 (bys p)]) (fun x => n - x.1) (0, o0, A0, c0) (⟨Nat.zero_le _, hE0⟩) (Sub.cons (s := 1) rfl (Sub.cons (s := 2) rfl (Sub.cons (s := 5) rfl (Sub.cons (s := 6) rfl (Sub.cons (s := 7) rfl (Sub.nil _)))))) (fun w' H => H) ?_
  rintro ⟨i, o, A, c⟩ hp
  obtain ⟨hp1, hE4⟩ := hp
  have hp1 : i ≤ n := hp1
  have hE4 : MapOf o (mapE (lastL (ents p 0 K2 i))) := hE4
  dsimp only
  refine VC_seq ?_
  refine VC_seq ?_
  refine VC_region ?_
  refine vl_v (q_move rfl) rfl ?_
  refine vl_v (q_move rfl) rfl ?_
  first | (refine vl_v (q_lss_n Try.underlying3 rfl rfl) rfl ?_) | (refine vl_v (q_lss_k Try.underlying3 rfl rfl) rfl ?_)
  refine vl_nil ?_
  refine (th_n ?_)
  refine VC_cond rfl (fun ht30 => ?_) (fun ht30 => ?_)
  · skip
    have ht30 : i < n := of_decide_eq_true ht30
    refine VC_skip ?_
    refine (th_n ?_)
    refine VC_seq ?_
    refine VC_block ?_
    refine VC_seq ?_
    simp only [SkR, List.cons_append, List.nil_append, List.append_nil]
    refine VC_region ?_
    refine vl_v (q_move rfl) rfl ?_
    first | (refine vl_v (q_loads 3 Try.underlying23 rfl rfl rfl sz23 (by first | omega | with_reducible assumption | (simp only [zb, zu, zw, zi, za]; omega) | (simp only [zs, zr, zm, za, zb, zu, zw, zi, zt, zd, zc, zn, *] <;> first | done | omega) | rfl)) rfl ?_) | (refine vl_v (q_loadsAt 3 Try.underlying23 rfl rfl rfl sz23 (by rfl) (by first | omega | with_reducible assumption | (simp only [zb, zu, zw, zi, za]; omega) | (simp only [zs, zr, zm, za, zb, zu, zw, zi, zt, zd, zc, zn, *] <;> first | done | omega) | rfl)) rfl ?_)
    refine vl_v (q_move rfl) rfl ?_
    refine vl_v (q_move rfl) rfl ?_
    refine vl_v (q_conv_k (r := ((UInt8.ofNat i).toNat : Int)) Try.underlying3 Try.underlying5 rfl (by rw [IntKind.wrap_u8, UInt8.toNat_ofNat']; omega)) rfl ?_
    refine vl_v (q_build (c' := bys (K2 i)) rfl (K2_build i)) rfl ?_
    refine l_call (F := fun v L' => v = .int .i64 (0) ∧ ∃ o A c, MapOf o (mapE (lastL (ents p 0 K2 (i + 1)))) ∧ L' = SkR bS m1 o A c (lastL (ents p 0 K2 (i + 1))) ++ [.blk b2 23 (bys (p))]) Try.func10 rfl rfl rfl (fun w1 H1 => (put_to (r := 0) (L' := lastL (ents p 0 K2 (i + 1))) (⟨p, (i : Int), K2 i⟩) lp (lK i) (wf_i (n := (i : Int)) (by omega) (by omega)) (lastL_good (ents_good lp lK (by omega))) (by rw [lastL_length]; omega) (put_ents0 i) (show St _ _ (SkR bS m1 o A c (lastL (ents p 0 K2 i)) ++ [.blk b2 23 (bys (p))]) w1 from H1) hE4).mono fun r w' h => ?_) rfl ?_
    · obtain ⟨h1, o, A, c, hE, h2⟩ := h
      exact ⟨_, _, h1, ⟨rfl, o, A, c, hE, rfl⟩, h2⟩
    rintro v L' ⟨rfl, o5, A5, c5, hE5, rfl⟩
    have hll := lastL_length (ents p 0 K2 (i + 1))
    rw [ents_length] at hll
    simp only [SkR, List.cons_append, List.nil_append, List.append_nil]
    refine vl_v (q_false (q_neq_n (p := 0) (q := 0) Try.underlying28 rfl rfl) rfl) rfl ?_
    refine vl_v (q_move rfl) rfl ?_
    refine vl_vg rfl (q_move rfl) rfl ?_
    refine vl_vg rfl (q_callV Try.func11 rfl rfl rfl (fun w1 H1 => len_calls bS ((lastL (ents p 0 K2 (i + 1))).length) c5 _ A5 w1 (Reads.blk 0 rfl w1 H1))) rfl ?_
    refine vl_vg rfl (q_move rfl) rfl ?_
    first | (refine vl_vg rfl (q_add_n (q := 1) rfl rfl (by omega)) rfl ?_) | (refine vl_vg rfl (q_add_i rfl rfl (by omega) (by omega)) rfl ?_)
    first | (refine vl_vg rfl (q_min (q := 8) rfl rfl) rfl ?_) | (refine vl_vg rfl (q_minI rfl rfl) rfl ?_)
    refine vl_vg rfl (q_false (q_neq_n Try.underlying3 rfl rfl) (by simp; omega)) rfl ?_
    first | (refine vl_v (q_pickT rfl rfl) rfl ?_) | (refine vl_v (q_pickF rfl rfl) rfl ?_)
    refine vl_nil ?_
    refine (th_n ?_)
    refine VC_no (rfl) ?_
    refine VC_skip ?_
    refine (bl_n (th_n ?_))
    refine VC_region ?_
    refine vl_v (q_move rfl) rfl ?_
    first | (refine vl_v (q_add_n (q := 1) rfl rfl (by omega)) rfl ?_) | (refine vl_v (q_add_i rfl rfl (by omega) (by omega)) rfl ?_)
    refine vl_v (q_assign rfl) rfl ?_
    refine vl_nil ?_
    refine (th_n ?_)
    refine ⟨(i + 1, o5, A5, c5), ⟨by show i + 1 ≤ n; omega, hE5⟩, by show n - (i + 1) < n - i; omega, (Sub.cons (s := 1) rfl (Sub.cons (s := 2) rfl (Sub.cons (s := 5) rfl (Sub.cons (s := 6) rfl (Sub.cons (s := 7) rfl (Sub.nil _)))))), fun w' H => H⟩
  · skip
    have ht30 := of_decide_eq_false ht30
    obtain rfl : i = n := by omega
    rw [lastL_mid] at hE4
    rw [lastL_mid]
    refine VC_exit ?_
    refine (th_x (th_x (bl_xs (th_n ?_))))
    refine VC_seq ?_
    refine VC_seq ?_
    refine VC_region ?_
    refine vl_v (q_move rfl) rfl ?_
    first | (refine vl_v (q_sub_n (q := 1) rfl rfl (by omega) (by omega)) rfl ?_) | (refine vl_v (q_sub_i rfl rfl (by omega) (by omega)) rfl ?_)
    refine vl_v (q_assign rfl) rfl ?_
    refine vl_nil ?_
    refine (th_n ?_)
    refine VC_block ?_
    refine VC_loop (ι := Nat × Obj × Option Addr × Nat) (fun x => x.1 ≤ i ∧ MapOf x.2.1 (mapE (midL p 0 K2 (i - 8) (i - x.1)))) (fun x => [(1, vN i), (2, vP b2 0), (5, .bool true), (6, vP bS 0), (8, vI ((i : Int) - 1 - (x.1 : Int)))]) (fun x => SkR bS m1 x.2.1 x.2.2.1 x.2.2.2 (midL p 0 K2 (i - 8) (i - x.1)) ++ [.blk b2 23 (bys p)]) (fun x => i - x.1) (0, o, A, c) (⟨Nat.zero_le _, hE4⟩) (Sub.cons (s := 1) rfl (Sub.cons (s := 2) rfl (Sub.cons (s := 5) rfl (Sub.cons (s := 6) rfl (Sub.cons (s := 8) (by show some (vI ((i : Int) - 1)) = some (vI ((i : Int) - 1 - ((0 : Nat) : Int))); rw [Int.natCast_zero, Int.sub_zero]) (Sub.nil _)))))) (fun w' H => H) ?_
    rintro ⟨j, o, A, c⟩ hp
    obtain ⟨hp3, hE3⟩ := hp
    have hp3 : j ≤ i := hp3
    have hE3 : MapOf o (mapE (midL p 0 K2 (i - 8) (i - j))) := hE3
    dsimp only
    refine VC_seq ?_
    refine VC_seq ?_
    refine VC_region ?_
    refine vl_v (q_move rfl) rfl ?_
    refine vl_v (q_geq_k (q := 0) Try.underlying3 rfl rfl) rfl ?_
    refine vl_nil ?_
    refine (th_n ?_)
    refine VC_cond rfl (fun ht52 => ?_) (fun ht52 => ?_)
    · skip
      have ht52 := of_decide_eq_true ht52
      obtain ⟨z, hz⟩ : ∃ z : Nat, i - j = z + 1 := ⟨i - j - 1, by omega⟩
      have hzi : ((i : Int) - 1 - (j : Int)) = (z : Int) := by omega
      obtain ⟨ak, lak, hak, hak2, htk⟩ := ask_back (K := K2) lp lK (i := i) (z := z) (by omega) (by omega)
      have hz1 : i - (j + 1) = z := by omega
      rw [hz] at hE3 ⊢
      rw [hzi]
      have hml := midL_length p 0 K2 (i - 8) (z + 1)
      refine VC_skip ?_
      refine (th_n ?_)
      refine VC_seq ?_
      refine VC_block ?_
      refine VC_seq ?_
      simp only [SkR, List.cons_append, List.nil_append, List.append_nil]
      refine VC_region ?_
      refine vl_v (q_move rfl) rfl ?_
      first | (refine vl_v (q_loads 3 Try.underlying23 rfl rfl rfl sz23 (by first | omega | with_reducible assumption | (simp only [zb, zu, zw, zi, za]; omega) | (simp only [zs, zr, zm, za, zb, zu, zw, zi, zt, zd, zc, zn, *] <;> first | done | omega) | rfl)) rfl ?_) | (refine vl_v (q_loadsAt 3 Try.underlying23 rfl rfl rfl sz23 (by rfl) (by first | omega | with_reducible assumption | (simp only [zb, zu, zw, zi, za]; omega) | (simp only [zs, zr, zm, za, zb, zu, zw, zi, zt, zd, zc, zn, *] <;> first | done | omega) | rfl)) rfl ?_)
      refine vl_v (q_move rfl) rfl ?_
      refine l_call (F := fun v L' => v = .tuple #[.agg (bys (ak)).toArray, .bool (decide (i ≤ z + 8))] ∧ ∃ o A c, MapOf o (mapE (midL p 0 K2 (i - 8) z)) ∧ L' = SkR bS m1 o A c (midL p 0 K2 (i - 8) z) ++ [.blk b2 23 (bys (p))]) Try.func12 rfl rfl rfl (fun w1 H1 => (take_to (ak := ak) (f := decide (i ≤ z + 8)) (L' := midL p 0 K2 (i - 8) z) (p) ((z : Int)) lp (wf_i (by omega) (by omega)) (midL_good lp lK (by omega)) (by omega) hak htk (show St _ _ (SkR bS m1 o A c (midL p 0 K2 (i - 8) (z + 1)) ++ [.blk b2 23 (bys (p))]) w1 from H1) hE3).mono fun r w' h => ?_) rfl ?_
      · obtain ⟨h1, o, A, c, hE, h2⟩ := h
        exact ⟨_, _, h1, ⟨rfl, o, A, c, hE, rfl⟩, h2⟩
      rintro v L' ⟨rfl, o6, A6, c6, hE6, rfl⟩
      simp only [SkR, List.cons_append, List.nil_append, List.append_nil]
      refine vl_v (q_move rfl) rfl ?_
      refine vl_v (q_ext rfl rfl) rfl ?_
      refine vl_v (q_ext rfl rfl) rfl ?_
      by_cases hs61 : i ≤ z + 8
      · skip
        rw [show decide (i ≤ z + 8) = true from decide_eq_true hs61]
        refine l_allocA zr23 rfl ?_
        intro b9
        refine l_storeA 0 rfl rfl rfl sz23 (by first | omega | with_reducible assumption | (simp only [zb, zu, zw, zi, za]; omega) | (simp only [zs, zr, zm, za, zb, zu, zw, zi, zt, zd, zc, zn, *] <;> first | done | omega) | rfl) (by first | (with_reducible first | exact bys_one _ | exact u32s_one _ | exact u64s_one _ | exact i64s_one _ | exact n64s_one _ | assumption) | exact bys_one _ | exact u32s_one _ | exact u64s_one _ | exact i64s_one _ | exact one_all rfl | (refine app_one ?_ ?_ <;> first | exact bys_one _ | (simp; done))) (by first | omega | with_reducible assumption | (simp only [zb, zu, zw, zi, za]; omega) | (simp only [zs, zr, zm, za, zb, zu, zw, zi, zt, zd, zc, zn, *] <;> first | done | omega) | rfl) ?_
        simp only [List.set_cons_zero, List.set_cons_succ]
        refine vl_v (q_assign rfl) rfl ?_
        refine vl_nil ?_
        refine (th_n ?_)
        refine VC_seq ?_
        refine VC_region ?_
        refine vl_v (q_move rfl) rfl ?_
        refine vl_v (q_move rfl) rfl ?_
        refine vl_v (q_move rfl) rfl ?_
        refine vl_v (q_sub_i rfl rfl (by omega) (by omega)) rfl ?_
        refine vl_v (q_as (v := .bool (decide (i ≤ z + 8))) (q_geq_k Try.underlying3 rfl rfl) (by rw [show decide ((i : Int) - 8 ≤ (z : Int)) = decide (i ≤ z + 8) by rw [decide_eq_decide]; omega])) rfl ?_
        refine vl_v (q_as (v := .bool false) (q_neBo Try.underlying4 rfl rfl) (by simp [hs61])) rfl ?_
        refine vl_v (q_move rfl) rfl ?_
        refine vl_vg rfl (q_move rfl) rfl ?_
        refine vl_vg rfl (q_move rfl) rfl ?_
        first | (refine vl_vg rfl (q_loads 0 Try.underlying23 rfl rfl rfl sz23 (by first | omega | with_reducible assumption | (simp only [zb, zu, zw, zi, za]; omega) | (simp only [zs, zr, zm, za, zb, zu, zw, zi, zt, zd, zc, zn, *] <;> first | done | omega) | rfl)) rfl ?_) | (refine vl_vg rfl (q_loadsAt 0 Try.underlying23 rfl rfl rfl sz23 (by rfl) (by first | omega | with_reducible assumption | (simp only [zb, zu, zw, zi, za]; omega) | (simp only [zs, zr, zm, za, zb, zu, zw, zi, zt, zd, zc, zn, *] <;> first | done | omega) | rfl)) rfl ?_)
        refine vl_vg rfl (q_move rfl) rfl ?_
        refine vl_vg rfl (q_conv_k (r := ((UInt8.ofNat z).toNat : Int)) Try.underlying3 Try.underlying5 rfl (by rw [IntKind.wrap_u8, UInt8.toNat_ofNat']; omega)) rfl ?_
        refine vl_vg rfl (q_build (c' := bys (K2 z)) rfl (K2_build z)) rfl ?_
        refine vl_vg rfl (q_as (v := .bool false) (q_neB flatKey rfl rfl (fits_bys' lak) (fits_bys' (K2_length z))) (by rw [hak2 hs61]; simp)) rfl ?_
        first | (refine vl_vg rfl (q_pickT rfl rfl) rfl ?_) | (refine vl_vg rfl (q_pickF rfl rfl) rfl ?_)
        first | (refine vl_v (q_pickT rfl rfl) rfl ?_) | (refine vl_v (q_pickF rfl rfl) rfl ?_)
        refine vl_nil ?_
        refine (th_n ?_)
        refine VC_no (rfl) ?_
        refine VC_skip ?_
        refine (bl_n (th_n ?_))
        refine VC_region ?_
        refine vl_v (q_move rfl) rfl ?_
        first | (refine vl_v (q_sub_n (q := 1) rfl rfl (by omega) (by omega)) rfl ?_) | (refine vl_v (q_sub_i rfl rfl (by omega) (by omega)) rfl ?_)
        refine vl_v (q_assign rfl) rfl ?_
        refine vl_nil ?_
        refine (th_n ?_)
        refine ⟨(j + 1, o6, A6, c6), ⟨by show j + 1 ≤ i; omega, by show MapOf o6 (mapE (midL p 0 K2 (i - 8) (i - (j + 1)))); rw [hz1]; exact hE6⟩, by show i - (j + 1) < z + 1; omega, (Sub.cons (s := 1) rfl (Sub.cons (s := 2) rfl (Sub.cons (s := 5) rfl (Sub.cons (s := 6) rfl (Sub.cons (s := 8) (congrArg (fun x : Int => some (vI x)) (show ((z : Int) - 1 : Int) = (i : Int) - 1 - ((j + 1 : Nat) : Int) by omega)) (Sub.nil _)))))), fun w' H => by show St _ _ (SkR bS m1 o6 A6 c6 (midL p 0 K2 (i - 8) (i - (j + 1))) ++ [.blk b2 23 (bys p)]) w'; rw [hz1]; exact St.pick H (ks := [1, 2, 3, 4]) (by decide) rfl⟩
      · skip
        rw [show decide (i ≤ z + 8) = false from decide_eq_false hs61]
        refine l_allocA zr23 rfl ?_
        intro b9
        refine l_storeA 0 rfl rfl rfl sz23 (by first | omega | with_reducible assumption | (simp only [zb, zu, zw, zi, za]; omega) | (simp only [zs, zr, zm, za, zb, zu, zw, zi, zt, zd, zc, zn, *] <;> first | done | omega) | rfl) (by first | (with_reducible first | exact bys_one _ | exact u32s_one _ | exact u64s_one _ | exact i64s_one _ | exact n64s_one _ | assumption) | exact bys_one _ | exact u32s_one _ | exact u64s_one _ | exact i64s_one _ | exact one_all rfl | (refine app_one ?_ ?_ <;> first | exact bys_one _ | (simp; done))) (by first | omega | with_reducible assumption | (simp only [zb, zu, zw, zi, za]; omega) | (simp only [zs, zr, zm, za, zb, zu, zw, zi, zt, zd, zc, zn, *] <;> first | done | omega) | rfl) ?_
        simp only [List.set_cons_zero, List.set_cons_succ]
        refine vl_v (q_assign rfl) rfl ?_
        refine vl_nil ?_
        refine (th_n ?_)
        refine VC_seq ?_
        refine VC_region ?_
        refine vl_v (q_move rfl) rfl ?_
        refine vl_v (q_move rfl) rfl ?_
        refine vl_v (q_move rfl) rfl ?_
        refine vl_v (q_sub_i rfl rfl (by omega) (by omega)) rfl ?_
        refine vl_v (q_as (v := .bool (decide (i ≤ z + 8))) (q_geq_k Try.underlying3 rfl rfl) (by rw [show decide ((i : Int) - 8 ≤ (z : Int)) = decide (i ≤ z + 8) by rw [decide_eq_decide]; omega])) rfl ?_
        refine vl_v (q_as (v := .bool false) (q_neBo Try.underlying4 rfl rfl) (by simp [hs61])) rfl ?_
        refine vl_v (q_move rfl) rfl ?_
        refine vl_vg rfl (q_move rfl) rfl ?_
        refine vl_vg rfl (q_move rfl) rfl ?_
        refine vl_skip rfl rfl ?_
        refine vl_skip rfl rfl ?_
        refine vl_skip rfl rfl ?_
        refine vl_skip rfl rfl ?_
        refine vl_skip rfl rfl ?_
        first | (refine vl_vg rfl (q_pickT rfl rfl) rfl ?_) | (refine vl_vg rfl (q_pickF rfl rfl) rfl ?_)
        first | (refine vl_v (q_pickT rfl rfl) rfl ?_) | (refine vl_v (q_pickF rfl rfl) rfl ?_)
        refine vl_nil ?_
        refine (th_n ?_)
        refine VC_no (rfl) ?_
        refine VC_skip ?_
        refine (bl_n (th_n ?_))
        refine VC_region ?_
        refine vl_v (q_move rfl) rfl ?_
        first | (refine vl_v (q_sub_n (q := 1) rfl rfl (by omega) (by omega)) rfl ?_) | (refine vl_v (q_sub_i rfl rfl (by omega) (by omega)) rfl ?_)
        refine vl_v (q_assign rfl) rfl ?_
        refine vl_nil ?_
        refine (th_n ?_)
        refine ⟨(j + 1, o6, A6, c6), ⟨by show j + 1 ≤ i; omega, by show MapOf o6 (mapE (midL p 0 K2 (i - 8) (i - (j + 1)))); rw [hz1]; exact hE6⟩, by show i - (j + 1) < z + 1; omega, (Sub.cons (s := 1) rfl (Sub.cons (s := 2) rfl (Sub.cons (s := 5) rfl (Sub.cons (s := 6) rfl (Sub.cons (s := 8) (congrArg (fun x : Int => some (vI x)) (show ((z : Int) - 1 : Int) = (i : Int) - 1 - ((j + 1 : Nat) : Int) by omega)) (Sub.nil _)))))), fun w' H => by show St _ _ (SkR bS m1 o6 A6 c6 (midL p 0 K2 (i - 8) (i - (j + 1))) ++ [.blk b2 23 (bys p)]) w'; rw [hz1]; exact St.pick H (ks := [1, 2, 3, 4]) (by decide) rfl⟩
    · skip
      have ht52 := of_decide_eq_false ht52
      obtain rfl : j = i := by omega
      rw [Nat.sub_self] at hE3 ⊢
      have hml := midL_length p 0 K2 (j - 8) 0
      refine VC_exit ?_
      refine (th_x (th_x (bl_xs (th_n ?_))))
      refine VC_seq ?_
      simp only [SkR, List.cons_append, List.nil_append, List.append_nil]
      refine VC_region ?_
      refine vl_v (q_move rfl) rfl ?_
      refine vl_v (q_move rfl) rfl ?_
      refine vl_vg rfl (q_move rfl) rfl ?_
      refine vl_vg rfl (q_callV Try.func11 rfl rfl rfl (fun w1 H1 => len_calls bS ((midL p 0 K2 (j - 8) 0).length) c _ A w1 (Reads.blk 0 rfl w1 H1))) rfl ?_
      refine vl_vg rfl (q_true (q_eql_n (q := 0) Try.underlying3 rfl rfl) (decide_eq_true (by omega))) rfl ?_
      first | (refine vl_v (q_pickT rfl rfl) rfl ?_) | (refine vl_v (q_pickF rfl rfl) rfl ?_)
      refine vl_v (q_assign rfl) rfl ?_
      refine vl_nil ?_
      refine (th_n ?_)
      refine VC_ret ?_
      refine ⟨_, res1 rfl rfl, ?_⟩
      exact rfl
set_option maxHeartbeats 1000000 in
theorem last_bad (p : List UInt8) (n : Int) (lp : p.length = 32) (hn : ¬ (0 ≤ n ∧ n ≤ 40)) (w : World) :
    Calls Try.prog 4 #[.agg (bys p).toArray, vI n] w fun e w' => e = .returned (.bool true) ∧ Kept [] w w' := by
  refine enter (n := 84) (R := fun e L => e = .returned (.bool true)) [.agg (bys p).toArray, vI n] Try.func4 rfl rfl rfl (St.refl w) ?_ (fun e w' L' h H => ⟨h, H.kept⟩)
  refine VC_seq ?_
  refine VC_region ?_
  refine l_boxA rfl rfl ?_
  intro b2
  refine vl_v (q_assign rfl) rfl ?_
  refine vl_nil ?_
  refine (th_n ?_)
  refine VC_seq ?_
  refine VC_region ?_
  refine vl_v (q_callV Try.func8 rfl rfl rfl (fun w1 H1 => awake11_calls w1)) rfl ?_
  refine vl_v (q_assign rfl) rfl ?_
  refine vl_nil ?_
  refine (th_n ?_)
  refine VC_seq ?_
  refine VC_region ?_
  refine l_call (F := fun v L' => ∃ bS' mm oo AA cc, v = vP bS' 0 ∧ MapOf oo (mapE []) ∧ L' = SkR bS' mm oo AA cc [] ++ [.blk b2 23 (bys (p))]) Try.func9 rfl rfl rfl (fun w1 H1 => (new_calls w1).mono fun e w' h => ?_) rfl ?_
  · obtain ⟨bS', mm, h1, oo, AA, cc, hE, h2⟩ := h
    rw [List.append_nil] at h2
    exact ⟨_, _, h1, ⟨bS', mm, oo, AA, cc, rfl, hE, rfl⟩, (H1.join h2).perm List.perm_append_comm⟩
  rintro v L' ⟨bS, m1, o0, A0, c0, rfl, hE0, rfl⟩
  simp only [SkR, List.cons_append, List.nil_append, List.append_nil]
  refine vl_v (q_assign rfl) rfl ?_
  refine vl_nil ?_
  refine (th_n ?_)
  refine VC_seq ?_
  refine VC_seq ?_
  refine VC_region ?_
  refine vl_v (q_move rfl) rfl ?_
  refine vl_v (q_eqPN Try.underlying26 rfl rfl) rfl ?_
  refine vl_v (q_move rfl) rfl ?_
  refine vl_vg rfl (q_move rfl) rfl ?_
  refine vl_vg rfl (q_as (v := .bool (decide (n < 0))) (q_lss_k (q := 0) Try.underlying3 rfl rfl) (by simp)) rfl ?_
  by_cases hs17 : n < 0
  · skip
    rw [show decide (n < 0) = true from decide_eq_true hs17]
    first | (refine vl_v (q_pickT rfl rfl) rfl ?_) | (refine vl_v (q_pickF rfl rfl) rfl ?_)
    refine vl_v (q_move rfl) rfl ?_
    refine vl_skip rfl rfl ?_
    refine vl_skip rfl rfl ?_
    first | (refine vl_v (q_pickT rfl rfl) rfl ?_) | (refine vl_v (q_pickF rfl rfl) rfl ?_)
    refine vl_nil ?_
    refine (th_n ?_)
    refine VC_yes (rfl) ?_
    refine VC_seq ?_
    refine VC_region ?_
    refine vl_v (q_move rfl) rfl ?_
    refine vl_v (q_move rfl) rfl ?_
    refine vl_vg rfl (q_move rfl) rfl ?_
    refine vl_vg rfl (q_nePN Try.underlying26 rfl rfl) rfl ?_
    first | (refine vl_v (q_pickT rfl rfl) rfl ?_) | (refine vl_v (q_pickF rfl rfl) rfl ?_)
    refine vl_v (q_assign rfl) rfl ?_
    refine vl_nil ?_
    refine (th_n ?_)
    refine VC_ret ?_
    refine (th_r ?_)
    refine ⟨_, res1 rfl rfl, ?_⟩
    exact rfl
  · skip
    rw [show decide (n < 0) = false from decide_eq_false hs17]
    first | (refine vl_v (q_pickT rfl rfl) rfl ?_) | (refine vl_v (q_pickF rfl rfl) rfl ?_)
    refine vl_v (q_move rfl) rfl ?_
    refine vl_vg rfl (q_move rfl) rfl ?_
    refine vl_vg rfl (q_as (v := .bool true) (q_gtr_k (q := 40) Try.underlying3 rfl rfl) (by simp; omega)) rfl ?_
    first | (refine vl_v (q_pickT rfl rfl) rfl ?_) | (refine vl_v (q_pickF rfl rfl) rfl ?_)
    refine vl_nil ?_
    refine (th_n ?_)
    refine VC_yes (rfl) ?_
    refine VC_seq ?_
    refine VC_region ?_
    refine vl_v (q_move rfl) rfl ?_
    refine vl_v (q_move rfl) rfl ?_
    refine vl_vg rfl (q_move rfl) rfl ?_
    refine vl_vg rfl (q_nePN Try.underlying26 rfl rfl) rfl ?_
    first | (refine vl_v (q_pickT rfl rfl) rfl ?_) | (refine vl_v (q_pickF rfl rfl) rfl ?_)
    refine vl_v (q_assign rfl) rfl ?_
    refine vl_nil ?_
    refine (th_n ?_)
    refine VC_ret ?_
    refine (th_r ?_)
    refine ⟨_, res1 rfl rfl, ?_⟩
    exact rfl
theorem skipsLast.walk (w : World) (v0 : Value) (p : List UInt8) (h0 : KeyV v0 p) (n : Int) (h1 : (Lit.int .i64 n).wf = true) :
    Calls Try.prog 4 #[v0, vI n] w fun e w' => e = .returned (.bool true) ∧ Kept [] w w' := by
  obtain ⟨rfl, lp⟩ := h0
  by_cases hn : 0 ≤ n ∧ n ≤ 40
  · obtain ⟨m, rfl⟩ : ∃ m : Nat, n = m := ⟨n.toNat, by omega⟩
    exact last_good p m lp (by omega) w
  · exact last_bad p n lp hn w

namespace skipsLast
open Go.ChangeShapes Go.WideShapes Go.ChangeAt Go.RowKit
theorem own : ownKnob Try.prog.godebug = none := by kernel_rfl
theorem laidOut : laidOutB Try.prog = true := by kernel_rfl
set_option maxRecDepth 100000 in
theorem lifted (os : Os) (started : os.Started) (H : Type) (enc : TypeId × Value → H) :
    ReturnsInHanded {} Try.checked os 4 .any (Rows.skipsLastSpec.pre6 enc Try.prog Try.f4 Rows.skipsLastRow.domain false) (Rows.skipsLastSpec.post enc Try.prog Try.f4 false true false false) := by
  refine returnsInHanded_of_change (C := Try.checked) own started (by kernel_rfl) Try.func4
    (ChangeSpec.witness6 (enc := enc) (C := Try.checked) false ⟨#[], #[(.agg (List.replicate 32 (Value.int .u8 0)).toArray), .int .i64 0], []⟩ 8 (by kernel_rfl) (by kernel_rfl) (by kernel_rfl) (by kernel_rfl)) ?_
  intro W base args ds gs before hval0 hW hcnd _
  have hval : ∀ (j : Nat) t v, Try.f4.params[j]? = some t → args[j]? = some v → Value.okWide Try.prog W .any base t v := hval0
  have hW' := hW
  obtain ⟨p, q, hA0, hV, rfl, hfz, hnd⟩ := hW
  have hA : DataW.TrodAll enc Try.prog W 0 (fun _ => true) true Try.f4.params.toList args.toList ds p := hA0
  rw [Try.params4] at hA hval
  obtain ⟨v0, vs0, d0, ds0, p0, q0, hargs, rfl, rfl, h0, r0⟩ := trodAll_cons hA
  obtain ⟨v1, vs1, d1, ds1, p1, q1, rfl, rfl, rfl, h1, r1⟩ := trodAll_cons r0
  obtain ⟨rfl, rfl, rfl⟩ := trodAll_nil r1
  obtain rfl : args = #[v0, v1] := by cases args; simp_all
  obtain ⟨rfl, rfl⟩ := trodVars_none hV
  have k0 := h0
  have lt0 : ∀ x ∈ p0, x.block < W.heap.size := by obtain ⟨m, hm⟩ := k0; exact DataW.trod_lt m _ _ _ hm
  have k1 := h1
  have lt1 : ∀ x ∈ p1, x.block < W.heap.size := by obtain ⟨m, hm⟩ := k1; exact DataW.trod_lt m _ _ _ hm
  obtain ⟨cs0, e0, f0⟩ := open_flat (ks := (List.replicate 32 .u8)) 6 (by kernel_rfl) (by kernel_rfl) (hval 0 23 v0 rfl rfl) h0
  subst e0
  obtain ⟨l0, g0⟩ := open_key f0
  obtain ⟨n1, rfl, _, _, g1⟩ := open_int Try.underlying3 (hval 1 3 v1 rfl rfl) h1
  clear hA0 hval0
  refine (skipsLast.walk W _ l0 g0 n1 g1).mono fun e W' ⟨he, hK⟩ => ?_
  subst he
  have bel := hK.below
  exact ⟨_, rfl, _, _, _, [], _, [], hW', trodAll_mk1 (shut_bool Try.underlying4 _), (trodAll_cons_mk (Below.trod laidOut (by kernel_rfl) (of_decide_eq_true (by kernel_rfl)) k0 bel lt0) (trodAll_cons_mk (Below.trod laidOut (by kernel_rfl) (of_decide_eq_true (by kernel_rfl)) k1 bel lt1) trodAll_mk0)), rfl, bel.frame _, fun h => by cases h⟩
theorem over : Rows.skipsLastRow.holds Try.pinned (OpenSpec.ofChange Rows.skipsLastSpec) :=
  OpenClaim.holds_of_wide 4 Try.f4 rfl rfl rfl rfl rfl rfl rfl ⟨rfl, rfl, rfl, rfl, rfl⟩ rfl rfl rfl rfl rfl (by kernel_rfl) Try.func4 (by kernel_rfl)
    (of_decide_eq_true (by kernel_rfl)) (by unfold Func.isWrapper; first | (rw [if_pos (by decide +kernel)]; kernel_rfl) | (rw [if_neg (by decide +kernel)]; exact ⟨rfl, rfl⟩))
    (fun os started H enc _ => lifted os started H enc)
theorem proved : Rows.SkipsLastSaid := over
end skipsLast
/-- The row. -/
theorem skipsLast_holds : Rows.SkipsLastSaid := skipsLast.proved
#print axioms skipsLast_holds
end Go.Proofs.Ytngdppffcdhhlaa
