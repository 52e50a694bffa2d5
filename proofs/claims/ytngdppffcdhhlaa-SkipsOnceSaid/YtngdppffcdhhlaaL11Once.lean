/- What was put is taken once, unless eight others were put behind it: the statement SkipsOnce. No condition. -/
import Derived.Test.YtngdppffcdhhlaaRows
import Derived.Test.YtngdppffcdhhlaaS11c
namespace Go.Proofs.Ytngdppffcdhhlaa
open Go.RowKit Go.PBYtngdppffcdhhlaa
set_option linter.unusedVariables false
set_option linter.unusedSimpArgs false
set_option maxRecDepth 10000

def KeyV (v : Value) (k : List UInt8) : Prop := v = .agg (bys k).toArray ∧ k.length = 32
theorem open_key {cs : List Value} (h : Fits cs (List.replicate 32 .u8)) : ∃ k, KeyV (.agg cs.toArray) k := by
  obtain ⟨k, hk, rfl⟩ := h.bytes
  exact ⟨k, rfl, hk⟩
def PairV (v : Value) (q : Int × Int) : Prop := v = .agg #[.int .i64 q.1, .int .i64 q.2]
theorem open_pair {cs : List Value} (h : Fits cs [.i64, .i64]) : ∃ q, PairV (.agg cs.toArray) q := by
  obtain ⟨a, b, rfl, ha, hb⟩ := Fits.split (k := [.i64]) (l := [.i64]) h
  obtain ⟨x, rfl, _⟩ := ha.one
  obtain ⟨y, rfl, _⟩ := hb.one
  exact ⟨(x, y), rfl⟩
theorem kB_build (i : Nat) : Try.prog.built 23 [(0, vU8 (UInt8.ofNat i))] = some (bys (keyB (UInt8.ofNat i))).toArray := by kernel_rfl
def KO (k : List UInt8) : Nat → List UInt8
  | 0 => k
  | i + 1 => keyB (UInt8.ofNat i)
theorem KO_length {k : List UInt8} (lk : k.length = 32) : ∀ i, (KO k i).length = 32
  | 0 => lk
  | i + 1 => keyB_length _
theorem put_first (p k : List UInt8) (n : Nat) : putR [] ⟨p, (n : Int), k⟩ = (0, lastL (ents p n (KO k) 1)) := put_ents (p := p) (a := n) (K := KO k) 0
theorem put_again (p k : List UInt8) (n : Nat) : putR (lastL (ents p n (KO k) 1)) ⟨p, (n : Int), k⟩ = (9, lastL (ents p n (KO k) 1)) := by
  have e : lastL (ents p n (KO k) 1) = [⟨p, ((n + 0 : Nat) : Int), k⟩] := rfl
  rw [e, putR, if_neg (by show ¬ ((n : Int) < 0); omega), if_pos (by simp [Ent.key])]
theorem ask_first {p k : List UInt8} {n m : Nat} (lp : p.length = 32) (lk : k.length = 32) (hn : n ≤ 1000) (hm : m ≤ 20) :
    ∃ (ak : List UInt8) (d : Nat), ak.length = 32 ∧ askR (midL p n (KO k) (m + 1 - 8) (m + 1)) (p, (n : Int)) = (ak, decide (m < 8)) ∧ (m < 8 → ak = k) ∧ takeR (midL p n (KO k) (m + 1 - 8) (m + 1)) (p, (n : Int)) = midL p n (KO k) d (m + 1) ∧ 1 ≤ d ∧ (0 < m → d ≤ m) ∧ m + 1 - d ≤ 8 := by
  by_cases h : m < 8
  · have e : m + 1 - 8 = 0 := by omega
    have h1 := ask_mid lp (KO_length lk) (a := n) (d := 0) (m := m + 1) (j := 0) (by omega) (by omega) (by omega)
    have h2 := take_low lp (KO_length lk) (a := n) (m := m + 1) (by omega) (by omega)
    simp only [Nat.add_zero] at h1 h2
    rw [e]
    exact ⟨k, 1, lk, by rw [h1, decide_eq_true h]; rfl, fun _ => rfl, h2, by omega, by omega, by omega⟩
  · have h1 := ask_out (p := p) (a := n) (K := KO k) (d := m + 1 - 8) (m := m + 1) (j := 0) (.inl (by omega))
    have h2 := take_out (p := p) (a := n) (K := KO k) (d := m + 1 - 8) (m := m + 1) (j := 0) (.inl (by omega))
    simp only [Nat.add_zero] at h1 h2
    exact ⟨zKey, m + 1 - 8, zKey_length, by rw [h1, decide_eq_false h], fun h' => absurd h' h, h2, by omega, by omega, by omega⟩
theorem ask_second {p k : List UInt8} {n m d : Nat} (h : 1 ≤ d) : askR (midL p n (KO k) d (m + 1)) (p, (n : Int)) = (zKey, false) ∧ takeR (midL p n (KO k) d (m + 1)) (p, (n : Int)) = midL p n (KO k) d (m + 1) := by
  have h1 := ask_out (p := p) (a := n) (K := KO k) (d := d) (m := m + 1) (j := 0) (.inl (by omega))
  have h2 := take_out (p := p) (a := n) (K := KO k) (d := d) (m := m + 1) (j := 0) (.inl (by omega))
  simp only [Nat.add_zero] at h1 h2
  exact ⟨h1, h2⟩
theorem KO_pos {k : List UInt8} {i : Nat} (h : 0 < i) : KO k i = keyB (UInt8.ofNat (i - 1)) := by
  obtain ⟨j, rfl⟩ : ∃ j, i = j + 1 := ⟨i - 1, by omega⟩
  rfl
set_option maxHeartbeats 3000000 in
theorem once_pos (p k : List UInt8) (n m : Nat) (lp : p.length = 32) (lk : k.length = 32) (hn : n ≤ 1000) (hm : m ≤ 20) (h0 : 0 < m) (w : World) :
    Calls Try.prog 3 #[.agg (bys p).toArray, .agg (bys k).toArray, .agg #[vN n, vN m]] w fun e w' => e = .returned (.bool true) ∧ Kept [] w w' := by
  have lK := KO_length lk
  have lz := zKey_length
  have hg : ∀ j, j ≤ 22 → GoodL (ents p n (KO k) j) := fun j hj => ents_good lp lK (by omega)
  refine enter (n := 145) (R := fun e L => e = .returned (.bool true)) [.agg (bys p).toArray, .agg (bys k).toArray, .agg #[vN n, vN m]] Try.func3 rfl rfl rfl (St.refl w) ?_ (fun e w' L' h H => ⟨h, H.kept⟩)
  refine VC_seq ?_
  refine VC_region ?_
  refine l_boxA rfl rfl ?_
  intro b3
  refine l_boxA rfl rfl ?_
  intro b4
  refine l_boxA rfl rfl ?_
  intro b5
  refine vl_v (q_assign rfl) rfl ?_
  refine vl_nil ?_
  refine (th_n ?_)
  refine VC_seq ?_
  refine VC_region ?_
  refine vl_v (q_callV Try.func8 rfl rfl rfl (fun w1 H1 => awake11_calls w1)) rfl ?_
  refine vl_v (q_assign rfl) rfl ?_
  refine vl_nil ?_
  refine (th_n ?_)
  refine VC_seq ?_
  refine VC_region ?_
  first | (refine vl_v (q_idxA (m := 0) Try.underlying24 sz3 rfl rfl (by omega) (r := _) (by rw [Nat.mul_one, Nat.zero_add])) rfl ?_) | (refine vl_v (q_idxA (m := 0) Try.underlying24 sz3 rfl rfl (by omega) rfl) rfl ?_)
  first | (refine vl_v (q_load 0 Try.underlying3 rfl rfl rfl (i64s_at (by first | omega | with_reducible assumption | (simp only [zb, zu, zw, zi, za]; omega) | (simp only [zs, zr, zm, za, zb, zu, zw, zi, zt, zd, zc, zn, *] <;> first | done | omega) | rfl))) rfl ?_) | (refine vl_v (q_load 0 Try.underlying3 rfl rfl rfl rfl) rfl ?_)
  refine vl_v (q_assign rfl) rfl ?_
  refine vl_nil ?_
  refine (th_n ?_)
  refine VC_seq ?_
  refine VC_region ?_
  first | (refine vl_v (q_idxA (m := 1) Try.underlying24 sz3 rfl rfl (by omega) (r := _) (by rw [Nat.mul_one, Nat.zero_add])) rfl ?_) | (refine vl_v (q_idxA (m := 1) Try.underlying24 sz3 rfl rfl (by omega) rfl) rfl ?_)
  first | (refine vl_v (q_load 0 Try.underlying3 rfl rfl rfl (i64s_at (by first | omega | with_reducible assumption | (simp only [zb, zu, zw, zi, za]; omega) | (simp only [zs, zr, zm, za, zb, zu, zw, zi, zt, zd, zc, zn, *] <;> first | done | omega) | rfl))) rfl ?_) | (refine vl_v (q_load 0 Try.underlying3 rfl rfl rfl rfl) rfl ?_)
  refine vl_v (q_assign rfl) rfl ?_
  refine vl_nil ?_
  refine (th_n ?_)
  refine VC_seq ?_
  refine VC_region ?_
  refine l_call (F := fun v L' => ∃ bS' mm oo AA cc, v = vP bS' 0 ∧ MapOf oo (mapE []) ∧ L' = SkR bS' mm oo AA cc [] ++ [.blk b5 24 [vN n, vN m], .blk b4 23 (bys (k)), .blk b3 23 (bys (p))]) Try.func9 rfl rfl rfl (fun w1 H1 => (new_calls w1).mono fun e w' h => ?_) rfl ?_
  · obtain ⟨bS', mm, h1, oo, AA, cc, hE, h2⟩ := h
    rw [List.append_nil] at h2
    exact ⟨_, _, h1, ⟨bS', mm, oo, AA, cc, rfl, hE, rfl⟩, (H1.join h2).perm List.perm_append_comm⟩
  rintro v L' ⟨bS, m1, o0, A0, c0, rfl, hE0, rfl⟩
  simp only [SkR, List.cons_append, List.nil_append, List.append_nil]
  refine vl_v (q_assign rfl) rfl ?_
  refine vl_nil ?_
  refine (th_n ?_)
  refine VC_seq ?_
  refine VC_seq ?_
  refine VC_region ?_
  refine vl_v (q_move rfl) rfl ?_
  refine vl_v (q_eqPN Try.underlying26 rfl rfl) rfl ?_
  refine vl_v (q_move rfl) rfl ?_
  refine vl_vg rfl (q_move rfl) rfl ?_
  refine vl_vg rfl (q_false (q_lss_n (q := 0) Try.underlying3 rfl rfl) (by simp)) rfl ?_
  first | (refine vl_v (q_pickT rfl rfl) rfl ?_) | (refine vl_v (q_pickF rfl rfl) rfl ?_)
  refine vl_v (q_move rfl) rfl ?_
  refine vl_vg rfl (q_move rfl) rfl ?_
  refine vl_vg rfl (q_false (q_gtr_n (q := 1000) Try.underlying3 rfl rfl) (by simp; omega)) rfl ?_
  first | (refine vl_v (q_pickT rfl rfl) rfl ?_) | (refine vl_v (q_pickF rfl rfl) rfl ?_)
  refine vl_v (q_move rfl) rfl ?_
  refine vl_vg rfl (q_move rfl) rfl ?_
  refine vl_vg rfl (q_false (q_lss_n (q := 0) Try.underlying3 rfl rfl) (by simp)) rfl ?_
  first | (refine vl_v (q_pickT rfl rfl) rfl ?_) | (refine vl_v (q_pickF rfl rfl) rfl ?_)
  refine vl_v (q_move rfl) rfl ?_
  refine vl_vg rfl (q_move rfl) rfl ?_
  refine vl_vg rfl (q_false (q_gtr_n (q := 20) Try.underlying3 rfl rfl) (by simp; omega)) rfl ?_
  first | (refine vl_v (q_pickT rfl rfl) rfl ?_) | (refine vl_v (q_pickF rfl rfl) rfl ?_)
  refine vl_nil ?_
  refine (th_n ?_)
  refine VC_no (rfl) ?_
  refine VC_skip ?_
  refine (th_n ?_)
  refine VC_seq ?_
  refine VC_region ?_
  refine vl_v (q_move rfl) rfl ?_
  first | (refine vl_v (q_loads 5 Try.underlying23 rfl rfl rfl sz23 (by first | omega | with_reducible assumption | (simp only [zb, zu, zw, zi, za]; omega) | (simp only [zs, zr, zm, za, zb, zu, zw, zi, zt, zd, zc, zn, *] <;> first | done | omega) | rfl)) rfl ?_) | (refine vl_v (q_loadsAt 5 Try.underlying23 rfl rfl rfl sz23 (by rfl) (by first | omega | with_reducible assumption | (simp only [zb, zu, zw, zi, za]; omega) | (simp only [zs, zr, zm, za, zb, zu, zw, zi, zt, zd, zc, zn, *] <;> first | done | omega) | rfl)) rfl ?_)
  refine vl_v (q_move rfl) rfl ?_
  first | (refine vl_v (q_loads 4 Try.underlying23 rfl rfl rfl sz23 (by first | omega | with_reducible assumption | (simp only [zb, zu, zw, zi, za]; omega) | (simp only [zs, zr, zm, za, zb, zu, zw, zi, zt, zd, zc, zn, *] <;> first | done | omega) | rfl)) rfl ?_) | (refine vl_v (q_loadsAt 4 Try.underlying23 rfl rfl rfl sz23 (by rfl) (by first | omega | with_reducible assumption | (simp only [zb, zu, zw, zi, za]; omega) | (simp only [zs, zr, zm, za, zb, zu, zw, zi, zt, zd, zc, zn, *] <;> first | done | omega) | rfl)) rfl ?_)
  refine l_call (F := fun v L' => v = .int .i64 (0) ∧ ∃ o A c, MapOf o (mapE (lastL (ents p n (KO k) 1))) ∧ L' = SkR bS m1 o A c (lastL (ents p n (KO k) 1)) ++ [.blk b5 24 [vN n, vN m], .blk b4 23 (bys (k)), .blk b3 23 (bys (p))]) Try.func10 rfl rfl rfl (fun w1 H1 => (put_to (r := 0) (L' := lastL (ents p n (KO k) 1)) (⟨p, (n : Int), k⟩) lp lk (wf_i (n := (n : Int)) (by omega) (by omega)) good_nil (by simp) (put_first p k n) (show St _ _ (SkR bS m1 o0 A0 c0 ([]) ++ [.blk b5 24 [vN n, vN m], .blk b4 23 (bys (k)), .blk b3 23 (bys (p))]) w1 from H1) hE0).mono fun r w' h => ?_) rfl ?_
  · obtain ⟨h1, o, A, c, hE, h2⟩ := h
    exact ⟨_, _, h1, ⟨rfl, o, A, c, hE, rfl⟩, h2⟩
  rintro v L' ⟨rfl, o1, A1, c1, hE1, rfl⟩
  simp only [SkR, List.cons_append, List.nil_append, List.append_nil]
  refine vl_v (q_assign rfl) rfl ?_
  refine vl_nil ?_
  refine (th_n ?_)
  refine VC_seq ?_
  refine VC_region ?_
  refine vl_v (q_move rfl) rfl ?_
  first | (refine vl_v (q_loads 5 Try.underlying23 rfl rfl rfl sz23 (by first | omega | with_reducible assumption | (simp only [zb, zu, zw, zi, za]; omega) | (simp only [zs, zr, zm, za, zb, zu, zw, zi, zt, zd, zc, zn, *] <;> first | done | omega) | rfl)) rfl ?_) | (refine vl_v (q_loadsAt 5 Try.underlying23 rfl rfl rfl sz23 (by rfl) (by first | omega | with_reducible assumption | (simp only [zb, zu, zw, zi, za]; omega) | (simp only [zs, zr, zm, za, zb, zu, zw, zi, zt, zd, zc, zn, *] <;> first | done | omega) | rfl)) rfl ?_)
  refine vl_v (q_move rfl) rfl ?_
  first | (refine vl_v (q_loads 4 Try.underlying23 rfl rfl rfl sz23 (by first | omega | with_reducible assumption | (simp only [zb, zu, zw, zi, za]; omega) | (simp only [zs, zr, zm, za, zb, zu, zw, zi, zt, zd, zc, zn, *] <;> first | done | omega) | rfl)) rfl ?_) | (refine vl_v (q_loadsAt 4 Try.underlying23 rfl rfl rfl sz23 (by rfl) (by first | omega | with_reducible assumption | (simp only [zb, zu, zw, zi, za]; omega) | (simp only [zs, zr, zm, za, zb, zu, zw, zi, zt, zd, zc, zn, *] <;> first | done | omega) | rfl)) rfl ?_)
  refine l_call (F := fun v L' => v = .int .i64 (9) ∧ ∃ o A c, MapOf o (mapE (lastL (ents p n (KO k) 1))) ∧ L' = SkR bS m1 o A c (lastL (ents p n (KO k) 1)) ++ [.blk b5 24 [vN n, vN m], .blk b4 23 (bys (k)), .blk b3 23 (bys (p))]) Try.func10 rfl rfl rfl (fun w1 H1 => (put_to (r := 9) (L' := lastL (ents p n (KO k) 1)) (⟨p, (n : Int), k⟩) lp lk (wf_i (n := (n : Int)) (by omega) (by omega)) (lastL_good (hg 1 (by omega))) (by rw [lastL_length]; omega) (put_again p k n) (show St _ _ (SkR bS m1 o1 A1 c1 (lastL (ents p n (KO k) 1)) ++ [.blk b5 24 [vN n, vN m], .blk b4 23 (bys (k)), .blk b3 23 (bys (p))]) w1 from H1) hE1).mono fun r w' h => ?_) rfl ?_
  · obtain ⟨h1, o, A, c, hE, h2⟩ := h
    exact ⟨_, _, h1, ⟨rfl, o, A, c, hE, rfl⟩, h2⟩
  rintro v L' ⟨rfl, o2, A2, c2, hE2, rfl⟩
  simp only [SkR, List.cons_append, List.nil_append, List.append_nil]
  refine vl_v (q_assign rfl) rfl ?_
  refine vl_nil ?_
  refine (th_n ?_)
  refine VC_seq ?_
  refine VC_seq ?_
  refine VC_region ?_
  refine vl_v (q_assign rfl) rfl ?_
  refine vl_nil ?_
  refine (th_n ?_)
  refine VC_block ?_
  refine VC_loop (ι := Nat × Obj × Option Addr × Nat) (fun x => x.1 ≤ m ∧ MapOf x.2.1 (mapE (lastL (ents p n (KO k) (x.1 + 1))))) (fun x => [(3, vP b3 0), (4, vP b4 0), (7, .bool true), (8, vN n), (9, vN m), (10, vP bS 0), (11, .int .i64 0), (12, .int .i64 9), (13, vN x.1)]) (fun x => SkR bS m1 x.2.1 x.2.2.1 x.2.2.2 (lastL (ents p n (KO k) (x.1 + 1))) ++ [.blk b5 24 [vN n, vN m], .blk b4 23 (bys (k)), .blk b3 23 (bys (p))]) (fun x => m - x.1) (0, o2, A2, c2) (⟨Nat.zero_le _, hE2⟩) (Sub.cons (s := 3) rfl (Sub.cons (s := 4) rfl (Sub.cons (s := 7) rfl (Sub.cons (s := 8) rfl (Sub.cons (s := 9) rfl (Sub.cons (s := 10) rfl (Sub.cons (s := 11) rfl (Sub.cons (s := 12) rfl (Sub.cons (s := 13) rfl (Sub.nil _)))))))))) (fun w' H => H) ?_
  rintro ⟨i, o, A, c⟩ hp
  obtain ⟨hp1, hE4⟩ := hp
  have hp1 : i ≤ m := hp1
  have hE4 : MapOf o (mapE (lastL (ents p n (KO k) (i + 1)))) := hE4
  dsimp only
  refine VC_seq ?_
  refine VC_seq ?_
  refine VC_region ?_
  refine vl_v (q_move rfl) rfl ?_
  refine vl_v (q_move rfl) rfl ?_
  first | (refine vl_v (q_lss_n Try.underlying3 rfl rfl) rfl ?_) | (refine vl_v (q_lss_k Try.underlying3 rfl rfl) rfl ?_)
  refine vl_nil ?_
  refine (th_n ?_)
  refine VC_cond rfl (fun ht61 => ?_) (fun ht61 => ?_)
  · skip
    have ht61 : i < m := of_decide_eq_true ht61
    refine VC_skip ?_
    refine (th_n ?_)
    refine VC_seq ?_
    refine VC_block ?_
    refine VC_seq ?_
    simp only [SkR, List.cons_append, List.nil_append, List.append_nil]
    refine VC_region ?_
    refine vl_v (q_move rfl) rfl ?_
    first | (refine vl_v (q_loads 5 Try.underlying23 rfl rfl rfl sz23 (by first | omega | with_reducible assumption | (simp only [zb, zu, zw, zi, za]; omega) | (simp only [zs, zr, zm, za, zb, zu, zw, zi, zt, zd, zc, zn, *] <;> first | done | omega) | rfl)) rfl ?_) | (refine vl_v (q_loadsAt 5 Try.underlying23 rfl rfl rfl sz23 (by rfl) (by first | omega | with_reducible assumption | (simp only [zb, zu, zw, zi, za]; omega) | (simp only [zs, zr, zm, za, zb, zu, zw, zi, zt, zd, zc, zn, *] <;> first | done | omega) | rfl)) rfl ?_)
    refine vl_v (q_move rfl) rfl ?_
    first | (refine vl_v (q_add_n (q := 1) rfl rfl (by omega)) rfl ?_) | (refine vl_v (q_add_i rfl rfl (by omega) (by omega)) rfl ?_)
    refine vl_v (q_move rfl) rfl ?_
    refine vl_v (q_as (v := vN (n + (i + 1))) (q_add_n (p := n + 1) (q := i) rfl rfl (by omega)) (by rw [show n + 1 + i = n + (i + 1) by omega])) rfl ?_
    refine vl_v (q_move rfl) rfl ?_
    refine vl_v (q_conv_k (r := ((UInt8.ofNat i).toNat : Int)) Try.underlying3 Try.underlying5 rfl (by rw [IntKind.wrap_u8, UInt8.toNat_ofNat']; omega)) rfl ?_
    refine vl_v (q_build (c' := bys (keyB (UInt8.ofNat i))) rfl (kB_build i)) rfl ?_
    refine l_call (F := fun v L' => v = .int .i64 (0) ∧ ∃ o A c, MapOf o (mapE (lastL (ents p n (KO k) (i + 1 + 1)))) ∧ L' = SkR bS m1 o A c (lastL (ents p n (KO k) (i + 1 + 1))) ++ [.blk b5 24 [vN n, vN m], .blk b4 23 (bys (k)), .blk b3 23 (bys (p))]) Try.func10 rfl rfl rfl (fun w1 H1 => (put_to (r := 0) (L' := lastL (ents p n (KO k) (i + 1 + 1))) (⟨p, ((n + (i + 1) : Nat) : Int), keyB (UInt8.ofNat i)⟩) lp (keyB_length _) (wf_i (n := ((n + (i + 1) : Nat) : Int)) (by omega) (by omega)) (lastL_good (hg _ (by omega))) (by rw [lastL_length]; omega) (put_ents (K := KO k) (i + 1)) (show St _ _ (SkR bS m1 o A c (lastL (ents p n (KO k) (i + 1))) ++ [.blk b5 24 [vN n, vN m], .blk b4 23 (bys (k)), .blk b3 23 (bys (p))]) w1 from H1) hE4).mono fun r w' h => ?_) rfl ?_
    · obtain ⟨h1, o, A, c, hE, h2⟩ := h
      exact ⟨_, _, h1, ⟨rfl, o, A, c, hE, rfl⟩, h2⟩
    rintro v L' ⟨rfl, o5, A5, c5, hE5, rfl⟩
    have hll := lastL_length (ents p n (KO k) (i + 1 + 1))
    simp only [SkR, List.cons_append, List.nil_append, List.append_nil]
    refine vl_v (q_false (q_neq_n (p := 0) (q := 0) Try.underlying28 rfl rfl) rfl) rfl ?_
    refine vl_v (q_move rfl) rfl ?_
    refine vl_vg rfl (q_move rfl) rfl ?_
    refine vl_vg rfl (q_callV Try.func11 rfl rfl rfl (fun w1 H1 => len_calls bS ((lastL (ents p n (KO k) (i + 1 + 1))).length) c5 _ A5 w1 (Reads.blk 0 rfl w1 H1))) rfl ?_
    refine vl_vg rfl (q_false (q_gtr_n (q := 8) Try.underlying3 rfl rfl) (by simp; omega)) rfl ?_
    first | (refine vl_v (q_pickT rfl rfl) rfl ?_) | (refine vl_v (q_pickF rfl rfl) rfl ?_)
    refine vl_nil ?_
    refine (th_n ?_)
    refine VC_no (rfl) ?_
    refine VC_skip ?_
    refine (bl_n (th_n ?_))
    refine VC_region ?_
    refine vl_v (q_move rfl) rfl ?_
    first | (refine vl_v (q_add_n (q := 1) rfl rfl (by omega)) rfl ?_) | (refine vl_v (q_add_i rfl rfl (by omega) (by omega)) rfl ?_)
    refine vl_v (q_assign rfl) rfl ?_
    refine vl_nil ?_
    refine (th_n ?_)
    refine ⟨(i + 1, o5, A5, c5), ⟨by show i + 1 ≤ m; omega, hE5⟩, by show m - (i + 1) < m - i; omega, (Sub.cons (s := 3) rfl (Sub.cons (s := 4) rfl (Sub.cons (s := 7) rfl (Sub.cons (s := 8) rfl (Sub.cons (s := 9) rfl (Sub.cons (s := 10) rfl (Sub.cons (s := 11) rfl (Sub.cons (s := 12) rfl (Sub.cons (s := 13) rfl (Sub.nil _)))))))))), fun w' H => H⟩
  · skip
    have ht61 := of_decide_eq_false ht61
    obtain rfl : i = m := by omega
    rw [lastL_mid] at hE4
    rw [lastL_mid]
    obtain ⟨ak, d, lak, hak, hak2, htk, hd1, hd2, hd3⟩ := ask_first (p := p) (k := k) (n := n) (m := i) lp lk hn hm
    obtain ⟨hs1, hs2⟩ := ask_second (p := p) (k := k) (n := n) (m := i) (d := d) hd1
    have hml := midL_length p n (KO k) d (i + 1)
    have hml0 := midL_length p n (KO k) (i + 1 - 8) (i + 1)
    refine VC_exit ?_
    refine (th_x (th_x (bl_xs (th_n ?_))))
    refine VC_seq ?_
    simp only [SkR, List.cons_append, List.nil_append, List.append_nil]
    refine VC_region ?_
    refine vl_v (q_move rfl) rfl ?_
    first | (refine vl_v (q_loads 5 Try.underlying23 rfl rfl rfl sz23 (by first | omega | with_reducible assumption | (simp only [zb, zu, zw, zi, za]; omega) | (simp only [zs, zr, zm, za, zb, zu, zw, zi, zt, zd, zc, zn, *] <;> first | done | omega) | rfl)) rfl ?_) | (refine vl_v (q_loadsAt 5 Try.underlying23 rfl rfl rfl sz23 (by rfl) (by first | omega | with_reducible assumption | (simp only [zb, zu, zw, zi, za]; omega) | (simp only [zs, zr, zm, za, zb, zu, zw, zi, zt, zd, zc, zn, *] <;> first | done | omega) | rfl)) rfl ?_)
    refine vl_v (q_move rfl) rfl ?_
    refine l_call (F := fun v L' => v = .tuple #[.agg (bys (ak)).toArray, .bool (decide (i < 8))] ∧ ∃ o A c, MapOf o (mapE (midL p n (KO k) d (i + 1))) ∧ L' = SkR bS m1 o A c (midL p n (KO k) d (i + 1)) ++ [.blk b5 24 [vN n, vN i], .blk b4 23 (bys (k)), .blk b3 23 (bys (p))]) Try.func12 rfl rfl rfl (fun w1 H1 => (take_to (ak := ak) (f := decide (i < 8)) (L' := midL p n (KO k) d (i + 1)) (p) ((n : Int)) lp (wf_i (by omega) (by omega)) (midL_good lp lK (by omega)) (by omega) hak htk (show St _ _ (SkR bS m1 o A c (midL p n (KO k) (i + 1 - 8) (i + 1)) ++ [.blk b5 24 [vN n, vN i], .blk b4 23 (bys (k)), .blk b3 23 (bys (p))]) w1 from H1) hE4).mono fun r w' h => ?_) rfl ?_
    · obtain ⟨h1, o, A, c, hE, h2⟩ := h
      exact ⟨_, _, h1, ⟨rfl, o, A, c, hE, rfl⟩, h2⟩
    rintro v L' ⟨rfl, o6, A6, c6, hE6, rfl⟩
    simp only [SkR, List.cons_append, List.nil_append, List.append_nil]
    refine vl_v (q_move rfl) rfl ?_
    refine vl_v (q_ext rfl rfl) rfl ?_
    refine vl_v (q_ext rfl rfl) rfl ?_
    by_cases hs86 : i < 8
    · skip
      rw [show decide (i < 8) = true from decide_eq_true hs86]
      refine l_allocA zr23 rfl ?_
      intro b14
      refine l_storeA 0 rfl rfl rfl sz23 (by first | omega | with_reducible assumption | (simp only [zb, zu, zw, zi, za]; omega) | (simp only [zs, zr, zm, za, zb, zu, zw, zi, zt, zd, zc, zn, *] <;> first | done | omega) | rfl) (by first | (with_reducible first | exact bys_one _ | exact u32s_one _ | exact u64s_one _ | exact i64s_one _ | exact n64s_one _ | assumption) | exact bys_one _ | exact u32s_one _ | exact u64s_one _ | exact i64s_one _ | exact one_all rfl | (refine app_one ?_ ?_ <;> first | exact bys_one _ | (simp; done))) (by first | omega | with_reducible assumption | (simp only [zb, zu, zw, zi, za]; omega) | (simp only [zs, zr, zm, za, zb, zu, zw, zi, zt, zd, zc, zn, *] <;> first | done | omega) | rfl) ?_
      simp only [List.set_cons_zero, List.set_cons_succ]
      refine vl_v (q_assign rfl) rfl ?_
      refine vl_nil ?_
      refine (th_n ?_)
      refine VC_seq ?_
      refine VC_pickL (ks := [1, 2, 3, 0, 4, 5, 6]) (by decide) rfl ?_
      refine VC_region ?_
      refine vl_v (q_move rfl) rfl ?_
      first | (refine vl_v (q_loads 6 Try.underlying23 rfl rfl rfl sz23 (by first | omega | with_reducible assumption | (simp only [zb, zu, zw, zi, za]; omega) | (simp only [zs, zr, zm, za, zb, zu, zw, zi, zt, zd, zc, zn, *] <;> first | done | omega) | rfl)) rfl ?_) | (refine vl_v (q_loadsAt 6 Try.underlying23 rfl rfl rfl sz23 (by rfl) (by first | omega | with_reducible assumption | (simp only [zb, zu, zw, zi, za]; omega) | (simp only [zs, zr, zm, za, zb, zu, zw, zi, zt, zd, zc, zn, *] <;> first | done | omega) | rfl)) rfl ?_)
      refine vl_v (q_move rfl) rfl ?_
      refine l_call (F := fun v L' => v = .tuple #[.agg (bys (zKey)).toArray, .bool (false)] ∧ ∃ o A c, MapOf o (mapE (midL p n (KO k) d (i + 1))) ∧ L' = SkR bS m1 o A c (midL p n (KO k) d (i + 1)) ++ [.blk b14 23 (bys (ak)), .blk b5 24 [vN n, vN i], .blk b4 23 (bys (k)), .blk b3 23 (bys (p))]) Try.func12 rfl rfl rfl (fun w1 H1 => (take_to (ak := zKey) (f := false) (L' := midL p n (KO k) d (i + 1)) (p) ((n : Int)) lp (wf_i (by omega) (by omega)) (midL_good lp lK (by omega)) (by omega) hs1 hs2 (show St _ _ (SkR bS m1 o6 A6 c6 (midL p n (KO k) d (i + 1)) ++ [.blk b14 23 (bys (ak)), .blk b5 24 [vN n, vN i], .blk b4 23 (bys (k)), .blk b3 23 (bys (p))]) w1 from H1) hE6).mono fun r w' h => ?_) rfl ?_
      · obtain ⟨h1, o, A, c, hE, h2⟩ := h
        exact ⟨_, _, h1, ⟨rfl, o, A, c, hE, rfl⟩, h2⟩
      rintro v L' ⟨rfl, o7, A7, c7, hE7, rfl⟩
      simp only [SkR, List.cons_append, List.nil_append, List.append_nil]
      refine vl_v (q_move rfl) rfl ?_
      refine vl_v (q_ext rfl rfl) rfl ?_
      refine vl_v (q_ext rfl rfl) rfl ?_
      refine l_allocA zr23 rfl ?_
      intro b16
      refine l_storeA 0 rfl rfl rfl sz23 (by first | omega | with_reducible assumption | (simp only [zb, zu, zw, zi, za]; omega) | (simp only [zs, zr, zm, za, zb, zu, zw, zi, zt, zd, zc, zn, *] <;> first | done | omega) | rfl) (by first | (with_reducible first | exact bys_one _ | exact u32s_one _ | exact u64s_one _ | exact i64s_one _ | exact n64s_one _ | assumption) | exact bys_one _ | exact u32s_one _ | exact u64s_one _ | exact i64s_one _ | exact one_all rfl | (refine app_one ?_ ?_ <;> first | exact bys_one _ | (simp; done))) (by first | omega | with_reducible assumption | (simp only [zb, zu, zw, zi, za]; omega) | (simp only [zs, zr, zm, za, zb, zu, zw, zi, zt, zd, zc, zn, *] <;> first | done | omega) | rfl) ?_
      simp only [List.set_cons_zero, List.set_cons_succ]
      refine vl_v (q_assign rfl) rfl ?_
      refine vl_nil ?_
      refine (th_n ?_)
      refine VC_seq ?_
      refine VC_pickL (ks := [1, 2, 3, 0, 4, 5, 6, 7]) (by decide) rfl ?_
      refine VC_region ?_
      refine vl_v (q_move rfl) rfl ?_
      first | (refine vl_v (q_loads 7 Try.underlying23 rfl rfl rfl sz23 (by first | omega | with_reducible assumption | (simp only [zb, zu, zw, zi, za]; omega) | (simp only [zs, zr, zm, za, zb, zu, zw, zi, zt, zd, zc, zn, *] <;> first | done | omega) | rfl)) rfl ?_) | (refine vl_v (q_loadsAt 7 Try.underlying23 rfl rfl rfl sz23 (by rfl) (by first | omega | with_reducible assumption | (simp only [zb, zu, zw, zi, za]; omega) | (simp only [zs, zr, zm, za, zb, zu, zw, zi, zt, zd, zc, zn, *] <;> first | done | omega) | rfl)) rfl ?_)
      refine vl_v (q_move rfl) rfl ?_
      refine vl_v (q_move rfl) rfl ?_
      first | (refine vl_v (q_add_n rfl rfl (by omega)) rfl ?_) | (refine vl_v (q_add_i rfl rfl (by omega) (by omega)) rfl ?_)
      refine l_call (F := fun v L' => v = .tuple #[.agg (bys (KO k i)).toArray, .bool (true)] ∧ ∃ o A c, MapOf o (mapE (midL p n (KO k) d i)) ∧ L' = SkR bS m1 o A c (midL p n (KO k) d i) ++ [.blk b16 23 (bys (zKey)), .blk b14 23 (bys (ak)), .blk b5 24 [vN n, vN i], .blk b4 23 (bys (k)), .blk b3 23 (bys (p))]) Try.func12 rfl rfl rfl (fun w1 H1 => (take_to (ak := KO k i) (f := true) (L' := midL p n (KO k) d i) (p) (((n + i : Nat) : Int)) lp (wf_i (by omega) (by omega)) (midL_good lp lK (by omega)) (by omega) (ask_mid lp lK (by omega) (hd2 h0) (by omega)) (take_top lp lK (by omega) (hd2 h0)) (show St _ _ (SkR bS m1 o7 A7 c7 (midL p n (KO k) d (i + 1)) ++ [.blk b16 23 (bys (zKey)), .blk b14 23 (bys (ak)), .blk b5 24 [vN n, vN i], .blk b4 23 (bys (k)), .blk b3 23 (bys (p))]) w1 from H1) hE7).mono fun r w' h => ?_) rfl ?_
      · obtain ⟨h1, o, A, c, hE, h2⟩ := h
        exact ⟨_, _, h1, ⟨rfl, o, A, c, hE, rfl⟩, h2⟩
      have lKi := lK i
      rintro v L' ⟨rfl, o8, A8, c8, hE8, rfl⟩
      simp only [SkR, List.cons_append, List.nil_append, List.append_nil]
      refine vl_v (q_move rfl) rfl ?_
      refine vl_v (q_ext rfl rfl) rfl ?_
      refine vl_v (q_ext rfl rfl) rfl ?_
      refine l_allocA zr23 rfl ?_
      intro b18
      refine l_storeA 0 rfl rfl rfl sz23 (by first | omega | with_reducible assumption | (simp only [zb, zu, zw, zi, za]; omega) | (simp only [zs, zr, zm, za, zb, zu, zw, zi, zt, zd, zc, zn, *] <;> first | done | omega) | rfl) (by first | (with_reducible first | exact bys_one _ | exact u32s_one _ | exact u64s_one _ | exact i64s_one _ | exact n64s_one _ | assumption) | exact bys_one _ | exact u32s_one _ | exact u64s_one _ | exact i64s_one _ | exact one_all rfl | (refine app_one ?_ ?_ <;> first | exact bys_one _ | (simp; done))) (by first | omega | with_reducible assumption | (simp only [zb, zu, zw, zi, za]; omega) | (simp only [zs, zr, zm, za, zb, zu, zw, zi, zt, zd, zc, zn, *] <;> first | done | omega) | rfl) ?_
      simp only [List.set_cons_zero, List.set_cons_succ]
      refine vl_v (q_assign rfl) rfl ?_
      refine vl_nil ?_
      refine (th_n ?_)
      refine VC_seq ?_
      refine VC_seq ?_
      refine VC_region ?_
      refine vl_v (q_move rfl) rfl ?_
      refine vl_v (q_true (q_gtr_n (q := 0) Try.underlying3 rfl rfl) (decide_eq_true (by omega))) rfl ?_
      refine vl_v (q_move rfl) rfl ?_
      refine vl_vg rfl (q_move rfl) rfl ?_
      refine vl_vg rfl (q_not rfl) rfl ?_
      refine vl_vg rfl (q_move rfl) rfl ?_
      first | (refine vl_vg rfl (q_loads 0 Try.underlying23 rfl rfl rfl sz23 (by first | omega | with_reducible assumption | (simp only [zb, zu, zw, zi, za]; omega) | (simp only [zs, zr, zm, za, zb, zu, zw, zi, zt, zd, zc, zn, *] <;> first | done | omega) | rfl)) rfl ?_) | (refine vl_vg rfl (q_loadsAt 0 Try.underlying23 rfl rfl rfl sz23 (by rfl) (by first | omega | with_reducible assumption | (simp only [zb, zu, zw, zi, za]; omega) | (simp only [zs, zr, zm, za, zb, zu, zw, zi, zt, zd, zc, zn, *] <;> first | done | omega) | rfl)) rfl ?_)
      refine vl_vg rfl (q_move rfl) rfl ?_
      first | (refine vl_vg rfl (q_sub_n (q := 1) rfl rfl (by omega) (by omega)) rfl ?_) | (refine vl_vg rfl (q_sub_i rfl rfl (by omega) (by omega)) rfl ?_)
      refine vl_vg rfl (q_conv_k (r := ((UInt8.ofNat (i - 1)).toNat : Int)) Try.underlying3 Try.underlying5 rfl (by rw [IntKind.wrap_u8, UInt8.toNat_ofNat']; omega)) rfl ?_
      refine vl_vg rfl (q_build (c' := bys (keyB (UInt8.ofNat (i - 1)))) rfl (kB_build (i - 1))) rfl ?_
      refine vl_vg rfl (q_as (v := .bool false) (q_neB flatKey rfl rfl (fits_bys' lKi) (fits_bys' (keyB_length _))) (by rw [KO_pos h0]; simp)) rfl ?_
      first | (refine vl_vg rfl (q_pickT rfl rfl) rfl ?_) | (refine vl_vg rfl (q_pickF rfl rfl) rfl ?_)
      first | (refine vl_v (q_pickT rfl rfl) rfl ?_) | (refine vl_v (q_pickF rfl rfl) rfl ?_)
      refine vl_nil ?_
      refine (th_n ?_)
      refine VC_no (rfl) ?_
      refine VC_skip ?_
      refine (th_n ?_)
      refine VC_seq ?_
      refine VC_region ?_
      refine vl_v (q_move rfl) rfl ?_
      refine vl_v (q_move rfl) rfl ?_
      refine vl_vg rfl (q_move rfl) rfl ?_
      refine vl_vg rfl (q_true (q_eql_n (q := 0) Try.underlying28 rfl rfl) (decide_eq_true rfl)) rfl ?_
      first | (refine vl_v (q_pickT rfl rfl) rfl ?_) | (refine vl_v (q_pickF rfl rfl) rfl ?_)
      refine vl_v (q_move rfl) rfl ?_
      refine vl_vg rfl (q_move rfl) rfl ?_
      refine vl_vg rfl (q_true (q_eql_n (p := 9) (q := 9) Try.underlying28 rfl rfl) (decide_eq_true rfl)) rfl ?_
      first | (refine vl_v (q_pickT rfl rfl) rfl ?_) | (refine vl_v (q_pickF rfl rfl) rfl ?_)
      refine vl_v (q_move rfl) rfl ?_
      refine vl_vg rfl (q_move rfl) rfl ?_
      refine vl_vg rfl (q_move rfl) rfl ?_
      first | (refine vl_vg rfl (q_lss_n (q := 8) Try.underlying3 rfl rfl) rfl ?_) | (refine vl_vg rfl (q_lss_k Try.underlying3 rfl rfl) rfl ?_)
      refine vl_vg rfl (q_as (v := .bool true) (q_eqBo Try.underlying4 rfl rfl) (by simp [hs86])) rfl ?_
      first | (refine vl_v (q_pickT rfl rfl) rfl ?_) | (refine vl_v (q_pickF rfl rfl) rfl ?_)
      refine vl_v (q_move rfl) rfl ?_
      refine vl_vg rfl (q_move rfl) rfl ?_
      refine vl_vg rfl (q_not rfl) rfl ?_
      refine vl_vg rfl (q_move rfl) rfl ?_
      first | (refine vl_vg rfl (q_loads 5 Try.underlying23 rfl rfl rfl sz23 (by first | omega | with_reducible assumption | (simp only [zb, zu, zw, zi, za]; omega) | (simp only [zs, zr, zm, za, zb, zu, zw, zi, zt, zd, zc, zn, *] <;> first | done | omega) | rfl)) rfl ?_) | (refine vl_vg rfl (q_loadsAt 5 Try.underlying23 rfl rfl rfl sz23 (by rfl) (by first | omega | with_reducible assumption | (simp only [zb, zu, zw, zi, za]; omega) | (simp only [zs, zr, zm, za, zb, zu, zw, zi, zt, zd, zc, zn, *] <;> first | done | omega) | rfl)) rfl ?_)
      first | (refine vl_vg rfl (q_loads 7 Try.underlying23 rfl rfl rfl sz23 (by first | omega | with_reducible assumption | (simp only [zb, zu, zw, zi, za]; omega) | (simp only [zs, zr, zm, za, zb, zu, zw, zi, zt, zd, zc, zn, *] <;> first | done | omega) | rfl)) rfl ?_) | (refine vl_vg rfl (q_loadsAt 7 Try.underlying23 rfl rfl rfl sz23 (by rfl) (by first | omega | with_reducible assumption | (simp only [zb, zu, zw, zi, za]; omega) | (simp only [zs, zr, zm, za, zb, zu, zw, zi, zt, zd, zc, zn, *] <;> first | done | omega) | rfl)) rfl ?_)
      refine vl_vg rfl (q_eqT flatKey rfl rfl (fits_bys' lak) (congrArg bys (hak2 hs86))) rfl ?_
      first | (refine vl_vg rfl (q_pickT rfl rfl) rfl ?_) | (refine vl_vg rfl (q_pickF rfl rfl) rfl ?_)
      first | (refine vl_v (q_pickT rfl rfl) rfl ?_) | (refine vl_v (q_pickF rfl rfl) rfl ?_)
      refine vl_v (q_move rfl) rfl ?_
      refine vl_vg rfl (q_move rfl) rfl ?_
      refine vl_vg rfl (q_not rfl) rfl ?_
      first | (refine vl_v (q_pickT rfl rfl) rfl ?_) | (refine vl_v (q_pickF rfl rfl) rfl ?_)
      refine vl_v (q_assign rfl) rfl ?_
      refine vl_nil ?_
      refine (th_n ?_)
      refine VC_ret ?_
      refine ⟨_, res1 rfl rfl, ?_⟩
      exact rfl
    · skip
      rw [show decide (i < 8) = false from decide_eq_false hs86]
      refine l_allocA zr23 rfl ?_
      intro b14
      refine l_storeA 0 rfl rfl rfl sz23 (by first | omega | with_reducible assumption | (simp only [zb, zu, zw, zi, za]; omega) | (simp only [zs, zr, zm, za, zb, zu, zw, zi, zt, zd, zc, zn, *] <;> first | done | omega) | rfl) (by first | (with_reducible first | exact bys_one _ | exact u32s_one _ | exact u64s_one _ | exact i64s_one _ | exact n64s_one _ | assumption) | exact bys_one _ | exact u32s_one _ | exact u64s_one _ | exact i64s_one _ | exact one_all rfl | (refine app_one ?_ ?_ <;> first | exact bys_one _ | (simp; done))) (by first | omega | with_reducible assumption | (simp only [zb, zu, zw, zi, za]; omega) | (simp only [zs, zr, zm, za, zb, zu, zw, zi, zt, zd, zc, zn, *] <;> first | done | omega) | rfl) ?_
      simp only [List.set_cons_zero, List.set_cons_succ]
      refine vl_v (q_assign rfl) rfl ?_
      refine vl_nil ?_
      refine (th_n ?_)
      refine VC_seq ?_
      refine VC_pickL (ks := [1, 2, 3, 0, 4, 5, 6]) (by decide) rfl ?_
      refine VC_region ?_
      refine vl_v (q_move rfl) rfl ?_
      first | (refine vl_v (q_loads 6 Try.underlying23 rfl rfl rfl sz23 (by first | omega | with_reducible assumption | (simp only [zb, zu, zw, zi, za]; omega) | (simp only [zs, zr, zm, za, zb, zu, zw, zi, zt, zd, zc, zn, *] <;> first | done | omega) | rfl)) rfl ?_) | (refine vl_v (q_loadsAt 6 Try.underlying23 rfl rfl rfl sz23 (by rfl) (by first | omega | with_reducible assumption | (simp only [zb, zu, zw, zi, za]; omega) | (simp only [zs, zr, zm, za, zb, zu, zw, zi, zt, zd, zc, zn, *] <;> first | done | omega) | rfl)) rfl ?_)
      refine vl_v (q_move rfl) rfl ?_
      refine l_call (F := fun v L' => v = .tuple #[.agg (bys (zKey)).toArray, .bool (false)] ∧ ∃ o A c, MapOf o (mapE (midL p n (KO k) d (i + 1))) ∧ L' = SkR bS m1 o A c (midL p n (KO k) d (i + 1)) ++ [.blk b14 23 (bys (ak)), .blk b5 24 [vN n, vN i], .blk b4 23 (bys (k)), .blk b3 23 (bys (p))]) Try.func12 rfl rfl rfl (fun w1 H1 => (take_to (ak := zKey) (f := false) (L' := midL p n (KO k) d (i + 1)) (p) ((n : Int)) lp (wf_i (by omega) (by omega)) (midL_good lp lK (by omega)) (by omega) hs1 hs2 (show St _ _ (SkR bS m1 o6 A6 c6 (midL p n (KO k) d (i + 1)) ++ [.blk b14 23 (bys (ak)), .blk b5 24 [vN n, vN i], .blk b4 23 (bys (k)), .blk b3 23 (bys (p))]) w1 from H1) hE6).mono fun r w' h => ?_) rfl ?_
      · obtain ⟨h1, o, A, c, hE, h2⟩ := h
        exact ⟨_, _, h1, ⟨rfl, o, A, c, hE, rfl⟩, h2⟩
      rintro v L' ⟨rfl, o7, A7, c7, hE7, rfl⟩
      simp only [SkR, List.cons_append, List.nil_append, List.append_nil]
      refine vl_v (q_move rfl) rfl ?_
      refine vl_v (q_ext rfl rfl) rfl ?_
      refine vl_v (q_ext rfl rfl) rfl ?_
      refine l_allocA zr23 rfl ?_
      intro b16
      refine l_storeA 0 rfl rfl rfl sz23 (by first | omega | with_reducible assumption | (simp only [zb, zu, zw, zi, za]; omega) | (simp only [zs, zr, zm, za, zb, zu, zw, zi, zt, zd, zc, zn, *] <;> first | done | omega) | rfl) (by first | (with_reducible first | exact bys_one _ | exact u32s_one _ | exact u64s_one _ | exact i64s_one _ | exact n64s_one _ | assumption) | exact bys_one _ | exact u32s_one _ | exact u64s_one _ | exact i64s_one _ | exact one_all rfl | (refine app_one ?_ ?_ <;> first | exact bys_one _ | (simp; done))) (by first | omega | with_reducible assumption | (simp only [zb, zu, zw, zi, za]; omega) | (simp only [zs, zr, zm, za, zb, zu, zw, zi, zt, zd, zc, zn, *] <;> first | done | omega) | rfl) ?_
      simp only [List.set_cons_zero, List.set_cons_succ]
      refine vl_v (q_assign rfl) rfl ?_
      refine vl_nil ?_
      refine (th_n ?_)
      refine VC_seq ?_
      refine VC_pickL (ks := [1, 2, 3, 0, 4, 5, 6, 7]) (by decide) rfl ?_
      refine VC_region ?_
      refine vl_v (q_move rfl) rfl ?_
      first | (refine vl_v (q_loads 7 Try.underlying23 rfl rfl rfl sz23 (by first | omega | with_reducible assumption | (simp only [zb, zu, zw, zi, za]; omega) | (simp only [zs, zr, zm, za, zb, zu, zw, zi, zt, zd, zc, zn, *] <;> first | done | omega) | rfl)) rfl ?_) | (refine vl_v (q_loadsAt 7 Try.underlying23 rfl rfl rfl sz23 (by rfl) (by first | omega | with_reducible assumption | (simp only [zb, zu, zw, zi, za]; omega) | (simp only [zs, zr, zm, za, zb, zu, zw, zi, zt, zd, zc, zn, *] <;> first | done | omega) | rfl)) rfl ?_)
      refine vl_v (q_move rfl) rfl ?_
      refine vl_v (q_move rfl) rfl ?_
      first | (refine vl_v (q_add_n rfl rfl (by omega)) rfl ?_) | (refine vl_v (q_add_i rfl rfl (by omega) (by omega)) rfl ?_)
      refine l_call (F := fun v L' => v = .tuple #[.agg (bys (KO k i)).toArray, .bool (true)] ∧ ∃ o A c, MapOf o (mapE (midL p n (KO k) d i)) ∧ L' = SkR bS m1 o A c (midL p n (KO k) d i) ++ [.blk b16 23 (bys (zKey)), .blk b14 23 (bys (ak)), .blk b5 24 [vN n, vN i], .blk b4 23 (bys (k)), .blk b3 23 (bys (p))]) Try.func12 rfl rfl rfl (fun w1 H1 => (take_to (ak := KO k i) (f := true) (L' := midL p n (KO k) d i) (p) (((n + i : Nat) : Int)) lp (wf_i (by omega) (by omega)) (midL_good lp lK (by omega)) (by omega) (ask_mid lp lK (by omega) (hd2 h0) (by omega)) (take_top lp lK (by omega) (hd2 h0)) (show St _ _ (SkR bS m1 o7 A7 c7 (midL p n (KO k) d (i + 1)) ++ [.blk b16 23 (bys (zKey)), .blk b14 23 (bys (ak)), .blk b5 24 [vN n, vN i], .blk b4 23 (bys (k)), .blk b3 23 (bys (p))]) w1 from H1) hE7).mono fun r w' h => ?_) rfl ?_
      · obtain ⟨h1, o, A, c, hE, h2⟩ := h
        exact ⟨_, _, h1, ⟨rfl, o, A, c, hE, rfl⟩, h2⟩
      have lKi := lK i
      rintro v L' ⟨rfl, o8, A8, c8, hE8, rfl⟩
      simp only [SkR, List.cons_append, List.nil_append, List.append_nil]
      refine vl_v (q_move rfl) rfl ?_
      refine vl_v (q_ext rfl rfl) rfl ?_
      refine vl_v (q_ext rfl rfl) rfl ?_
      refine l_allocA zr23 rfl ?_
      intro b18
      refine l_storeA 0 rfl rfl rfl sz23 (by first | omega | with_reducible assumption | (simp only [zb, zu, zw, zi, za]; omega) | (simp only [zs, zr, zm, za, zb, zu, zw, zi, zt, zd, zc, zn, *] <;> first | done | omega) | rfl) (by first | (with_reducible first | exact bys_one _ | exact u32s_one _ | exact u64s_one _ | exact i64s_one _ | exact n64s_one _ | assumption) | exact bys_one _ | exact u32s_one _ | exact u64s_one _ | exact i64s_one _ | exact one_all rfl | (refine app_one ?_ ?_ <;> first | exact bys_one _ | (simp; done))) (by first | omega | with_reducible assumption | (simp only [zb, zu, zw, zi, za]; omega) | (simp only [zs, zr, zm, za, zb, zu, zw, zi, zt, zd, zc, zn, *] <;> first | done | omega) | rfl) ?_
      simp only [List.set_cons_zero, List.set_cons_succ]
      refine vl_v (q_assign rfl) rfl ?_
      refine vl_nil ?_
      refine (th_n ?_)
      refine VC_seq ?_
      refine VC_seq ?_
      refine VC_region ?_
      refine vl_v (q_move rfl) rfl ?_
      refine vl_v (q_true (q_gtr_n (q := 0) Try.underlying3 rfl rfl) (decide_eq_true (by omega))) rfl ?_
      refine vl_v (q_move rfl) rfl ?_
      refine vl_vg rfl (q_move rfl) rfl ?_
      refine vl_vg rfl (q_not rfl) rfl ?_
      refine vl_vg rfl (q_move rfl) rfl ?_
      first | (refine vl_vg rfl (q_loads 0 Try.underlying23 rfl rfl rfl sz23 (by first | omega | with_reducible assumption | (simp only [zb, zu, zw, zi, za]; omega) | (simp only [zs, zr, zm, za, zb, zu, zw, zi, zt, zd, zc, zn, *] <;> first | done | omega) | rfl)) rfl ?_) | (refine vl_vg rfl (q_loadsAt 0 Try.underlying23 rfl rfl rfl sz23 (by rfl) (by first | omega | with_reducible assumption | (simp only [zb, zu, zw, zi, za]; omega) | (simp only [zs, zr, zm, za, zb, zu, zw, zi, zt, zd, zc, zn, *] <;> first | done | omega) | rfl)) rfl ?_)
      refine vl_vg rfl (q_move rfl) rfl ?_
      first | (refine vl_vg rfl (q_sub_n (q := 1) rfl rfl (by omega) (by omega)) rfl ?_) | (refine vl_vg rfl (q_sub_i rfl rfl (by omega) (by omega)) rfl ?_)
      refine vl_vg rfl (q_conv_k (r := ((UInt8.ofNat (i - 1)).toNat : Int)) Try.underlying3 Try.underlying5 rfl (by rw [IntKind.wrap_u8, UInt8.toNat_ofNat']; omega)) rfl ?_
      refine vl_vg rfl (q_build (c' := bys (keyB (UInt8.ofNat (i - 1)))) rfl (kB_build (i - 1))) rfl ?_
      refine vl_vg rfl (q_as (v := .bool false) (q_neB flatKey rfl rfl (fits_bys' lKi) (fits_bys' (keyB_length _))) (by rw [KO_pos h0]; simp)) rfl ?_
      first | (refine vl_vg rfl (q_pickT rfl rfl) rfl ?_) | (refine vl_vg rfl (q_pickF rfl rfl) rfl ?_)
      first | (refine vl_v (q_pickT rfl rfl) rfl ?_) | (refine vl_v (q_pickF rfl rfl) rfl ?_)
      refine vl_nil ?_
      refine (th_n ?_)
      refine VC_no (rfl) ?_
      refine VC_skip ?_
      refine (th_n ?_)
      refine VC_seq ?_
      refine VC_region ?_
      refine vl_v (q_move rfl) rfl ?_
      refine vl_v (q_move rfl) rfl ?_
      refine vl_vg rfl (q_move rfl) rfl ?_
      refine vl_vg rfl (q_true (q_eql_n (q := 0) Try.underlying28 rfl rfl) (decide_eq_true rfl)) rfl ?_
      first | (refine vl_v (q_pickT rfl rfl) rfl ?_) | (refine vl_v (q_pickF rfl rfl) rfl ?_)
      refine vl_v (q_move rfl) rfl ?_
      refine vl_vg rfl (q_move rfl) rfl ?_
      refine vl_vg rfl (q_true (q_eql_n (p := 9) (q := 9) Try.underlying28 rfl rfl) (decide_eq_true rfl)) rfl ?_
      first | (refine vl_v (q_pickT rfl rfl) rfl ?_) | (refine vl_v (q_pickF rfl rfl) rfl ?_)
      refine vl_v (q_move rfl) rfl ?_
      refine vl_vg rfl (q_move rfl) rfl ?_
      refine vl_vg rfl (q_move rfl) rfl ?_
      first | (refine vl_vg rfl (q_lss_n (q := 8) Try.underlying3 rfl rfl) rfl ?_) | (refine vl_vg rfl (q_lss_k Try.underlying3 rfl rfl) rfl ?_)
      refine vl_vg rfl (q_as (v := .bool true) (q_eqBo Try.underlying4 rfl rfl) (by simp [hs86])) rfl ?_
      first | (refine vl_v (q_pickT rfl rfl) rfl ?_) | (refine vl_v (q_pickF rfl rfl) rfl ?_)
      refine vl_v (q_move rfl) rfl ?_
      refine vl_vg rfl (q_move rfl) rfl ?_
      refine vl_vg rfl (q_not rfl) rfl ?_
      refine vl_vg rfl (q_move rfl) rfl ?_
      refine vl_skip rfl rfl ?_
      refine vl_skip rfl rfl ?_
      refine vl_skip rfl rfl ?_
      first | (refine vl_vg rfl (q_pickT rfl rfl) rfl ?_) | (refine vl_vg rfl (q_pickF rfl rfl) rfl ?_)
      first | (refine vl_v (q_pickT rfl rfl) rfl ?_) | (refine vl_v (q_pickF rfl rfl) rfl ?_)
      refine vl_v (q_move rfl) rfl ?_
      refine vl_vg rfl (q_move rfl) rfl ?_
      refine vl_vg rfl (q_not rfl) rfl ?_
      first | (refine vl_v (q_pickT rfl rfl) rfl ?_) | (refine vl_v (q_pickF rfl rfl) rfl ?_)
      refine vl_v (q_assign rfl) rfl ?_
      refine vl_nil ?_
      refine (th_n ?_)
      refine VC_ret ?_
      refine ⟨_, res1 rfl rfl, ?_⟩
      exact rfl
set_option maxHeartbeats 3000000 in
theorem once_zero (p k : List UInt8) (n m : Nat) (lp : p.length = 32) (lk : k.length = 32) (hn : n ≤ 1000) (hm : m ≤ 20) (h0 : m = 0) (w : World) :
    Calls Try.prog 3 #[.agg (bys p).toArray, .agg (bys k).toArray, .agg #[vN n, vN m]] w fun e w' => e = .returned (.bool true) ∧ Kept [] w w' := by
  have lK := KO_length lk
  have lz := zKey_length
  have hg : ∀ j, j ≤ 22 → GoodL (ents p n (KO k) j) := fun j hj => ents_good lp lK (by omega)
  refine enter (n := 145) (R := fun e L => e = .returned (.bool true)) [.agg (bys p).toArray, .agg (bys k).toArray, .agg #[vN n, vN m]] Try.func3 rfl rfl rfl (St.refl w) ?_ (fun e w' L' h H => ⟨h, H.kept⟩)
  refine VC_seq ?_
  refine VC_region ?_
  refine l_boxA rfl rfl ?_
  intro b3
  refine l_boxA rfl rfl ?_
  intro b4
  refine l_boxA rfl rfl ?_
  intro b5
  refine vl_v (q_assign rfl) rfl ?_
  refine vl_nil ?_
  refine (th_n ?_)
  refine VC_seq ?_
  refine VC_region ?_
  refine vl_v (q_callV Try.func8 rfl rfl rfl (fun w1 H1 => awake11_calls w1)) rfl ?_
  refine vl_v (q_assign rfl) rfl ?_
  refine vl_nil ?_
  refine (th_n ?_)
  refine VC_seq ?_
  refine VC_region ?_
  first | (refine vl_v (q_idxA (m := 0) Try.underlying24 sz3 rfl rfl (by omega) (r := _) (by rw [Nat.mul_one, Nat.zero_add])) rfl ?_) | (refine vl_v (q_idxA (m := 0) Try.underlying24 sz3 rfl rfl (by omega) rfl) rfl ?_)
  first | (refine vl_v (q_load 0 Try.underlying3 rfl rfl rfl (i64s_at (by first | omega | with_reducible assumption | (simp only [zb, zu, zw, zi, za]; omega) | (simp only [zs, zr, zm, za, zb, zu, zw, zi, zt, zd, zc, zn, *] <;> first | done | omega) | rfl))) rfl ?_) | (refine vl_v (q_load 0 Try.underlying3 rfl rfl rfl rfl) rfl ?_)
  refine vl_v (q_assign rfl) rfl ?_
  refine vl_nil ?_
  refine (th_n ?_)
  refine VC_seq ?_
  refine VC_region ?_
  first | (refine vl_v (q_idxA (m := 1) Try.underlying24 sz3 rfl rfl (by omega) (r := _) (by rw [Nat.mul_one, Nat.zero_add])) rfl ?_) | (refine vl_v (q_idxA (m := 1) Try.underlying24 sz3 rfl rfl (by omega) rfl) rfl ?_)
  first | (refine vl_v (q_load 0 Try.underlying3 rfl rfl rfl (i64s_at (by first | omega | with_reducible assumption | (simp only [zb, zu, zw, zi, za]; omega) | (simp only [zs, zr, zm, za, zb, zu, zw, zi, zt, zd, zc, zn, *] <;> first | done | omega) | rfl))) rfl ?_) | (refine vl_v (q_load 0 Try.underlying3 rfl rfl rfl rfl) rfl ?_)
  refine vl_v (q_assign rfl) rfl ?_
  refine vl_nil ?_
  refine (th_n ?_)
  refine VC_seq ?_
  refine VC_region ?_
  refine l_call (F := fun v L' => ∃ bS' mm oo AA cc, v = vP bS' 0 ∧ MapOf oo (mapE []) ∧ L' = SkR bS' mm oo AA cc [] ++ [.blk b5 24 [vN n, vN m], .blk b4 23 (bys (k)), .blk b3 23 (bys (p))]) Try.func9 rfl rfl rfl (fun w1 H1 => (new_calls w1).mono fun e w' h => ?_) rfl ?_
  · obtain ⟨bS', mm, h1, oo, AA, cc, hE, h2⟩ := h
    rw [List.append_nil] at h2
    exact ⟨_, _, h1, ⟨bS', mm, oo, AA, cc, rfl, hE, rfl⟩, (H1.join h2).perm List.perm_append_comm⟩
  rintro v L' ⟨bS, m1, o0, A0, c0, rfl, hE0, rfl⟩
  simp only [SkR, List.cons_append, List.nil_append, List.append_nil]
  refine vl_v (q_assign rfl) rfl ?_
  refine vl_nil ?_
  refine (th_n ?_)
  refine VC_seq ?_
  refine VC_seq ?_
  refine VC_region ?_
  refine vl_v (q_move rfl) rfl ?_
  refine vl_v (q_eqPN Try.underlying26 rfl rfl) rfl ?_
  refine vl_v (q_move rfl) rfl ?_
  refine vl_vg rfl (q_move rfl) rfl ?_
  refine vl_vg rfl (q_false (q_lss_n (q := 0) Try.underlying3 rfl rfl) (by simp)) rfl ?_
  first | (refine vl_v (q_pickT rfl rfl) rfl ?_) | (refine vl_v (q_pickF rfl rfl) rfl ?_)
  refine vl_v (q_move rfl) rfl ?_
  refine vl_vg rfl (q_move rfl) rfl ?_
  refine vl_vg rfl (q_false (q_gtr_n (q := 1000) Try.underlying3 rfl rfl) (by simp; omega)) rfl ?_
  first | (refine vl_v (q_pickT rfl rfl) rfl ?_) | (refine vl_v (q_pickF rfl rfl) rfl ?_)
  refine vl_v (q_move rfl) rfl ?_
  refine vl_vg rfl (q_move rfl) rfl ?_
  refine vl_vg rfl (q_false (q_lss_n (q := 0) Try.underlying3 rfl rfl) (by simp)) rfl ?_
  first | (refine vl_v (q_pickT rfl rfl) rfl ?_) | (refine vl_v (q_pickF rfl rfl) rfl ?_)
  refine vl_v (q_move rfl) rfl ?_
  refine vl_vg rfl (q_move rfl) rfl ?_
  refine vl_vg rfl (q_false (q_gtr_n (q := 20) Try.underlying3 rfl rfl) (by simp; omega)) rfl ?_
  first | (refine vl_v (q_pickT rfl rfl) rfl ?_) | (refine vl_v (q_pickF rfl rfl) rfl ?_)
  refine vl_nil ?_
  refine (th_n ?_)
  refine VC_no (rfl) ?_
  refine VC_skip ?_
  refine (th_n ?_)
  refine VC_seq ?_
  refine VC_region ?_
  refine vl_v (q_move rfl) rfl ?_
  first | (refine vl_v (q_loads 5 Try.underlying23 rfl rfl rfl sz23 (by first | omega | with_reducible assumption | (simp only [zb, zu, zw, zi, za]; omega) | (simp only [zs, zr, zm, za, zb, zu, zw, zi, zt, zd, zc, zn, *] <;> first | done | omega) | rfl)) rfl ?_) | (refine vl_v (q_loadsAt 5 Try.underlying23 rfl rfl rfl sz23 (by rfl) (by first | omega | with_reducible assumption | (simp only [zb, zu, zw, zi, za]; omega) | (simp only [zs, zr, zm, za, zb, zu, zw, zi, zt, zd, zc, zn, *] <;> first | done | omega) | rfl)) rfl ?_)
  refine vl_v (q_move rfl) rfl ?_
  first | (refine vl_v (q_loads 4 Try.underlying23 rfl rfl rfl sz23 (by first | omega | with_reducible assumption | (simp only [zb, zu, zw, zi, za]; omega) | (simp only [zs, zr, zm, za, zb, zu, zw, zi, zt, zd, zc, zn, *] <;> first | done | omega) | rfl)) rfl ?_) | (refine vl_v (q_loadsAt 4 Try.underlying23 rfl rfl rfl sz23 (by rfl) (by first | omega | with_reducible assumption | (simp only [zb, zu, zw, zi, za]; omega) | (simp only [zs, zr, zm, za, zb, zu, zw, zi, zt, zd, zc, zn, *] <;> first | done | omega) | rfl)) rfl ?_)
  refine l_call (F := fun v L' => v = .int .i64 (0) ∧ ∃ o A c, MapOf o (mapE (lastL (ents p n (KO k) 1))) ∧ L' = SkR bS m1 o A c (lastL (ents p n (KO k) 1)) ++ [.blk b5 24 [vN n, vN m], .blk b4 23 (bys (k)), .blk b3 23 (bys (p))]) Try.func10 rfl rfl rfl (fun w1 H1 => (put_to (r := 0) (L' := lastL (ents p n (KO k) 1)) (⟨p, (n : Int), k⟩) lp lk (wf_i (n := (n : Int)) (by omega) (by omega)) good_nil (by simp) (put_first p k n) (show St _ _ (SkR bS m1 o0 A0 c0 ([]) ++ [.blk b5 24 [vN n, vN m], .blk b4 23 (bys (k)), .blk b3 23 (bys (p))]) w1 from H1) hE0).mono fun r w' h => ?_) rfl ?_
  · obtain ⟨h1, o, A, c, hE, h2⟩ := h
    exact ⟨_, _, h1, ⟨rfl, o, A, c, hE, rfl⟩, h2⟩
  rintro v L' ⟨rfl, o1, A1, c1, hE1, rfl⟩
  simp only [SkR, List.cons_append, List.nil_append, List.append_nil]
  refine vl_v (q_assign rfl) rfl ?_
  refine vl_nil ?_
  refine (th_n ?_)
  refine VC_seq ?_
  refine VC_region ?_
  refine vl_v (q_move rfl) rfl ?_
  first | (refine vl_v (q_loads 5 Try.underlying23 rfl rfl rfl sz23 (by first | omega | with_reducible assumption | (simp only [zb, zu, zw, zi, za]; omega) | (simp only [zs, zr, zm, za, zb, zu, zw, zi, zt, zd, zc, zn, *] <;> first | done | omega) | rfl)) rfl ?_) | (refine vl_v (q_loadsAt 5 Try.underlying23 rfl rfl rfl sz23 (by rfl) (by first | omega | with_reducible assumption | (simp only [zb, zu, zw, zi, za]; omega) | (simp only [zs, zr, zm, za, zb, zu, zw, zi, zt, zd, zc, zn, *] <;> first | done | omega) | rfl)) rfl ?_)
  refine vl_v (q_move rfl) rfl ?_
  first | (refine vl_v (q_loads 4 Try.underlying23 rfl rfl rfl sz23 (by first | omega | with_reducible assumption | (simp only [zb, zu, zw, zi, za]; omega) | (simp only [zs, zr, zm, za, zb, zu, zw, zi, zt, zd, zc, zn, *] <;> first | done | omega) | rfl)) rfl ?_) | (refine vl_v (q_loadsAt 4 Try.underlying23 rfl rfl rfl sz23 (by rfl) (by first | omega | with_reducible assumption | (simp only [zb, zu, zw, zi, za]; omega) | (simp only [zs, zr, zm, za, zb, zu, zw, zi, zt, zd, zc, zn, *] <;> first | done | omega) | rfl)) rfl ?_)
  refine l_call (F := fun v L' => v = .int .i64 (9) ∧ ∃ o A c, MapOf o (mapE (lastL (ents p n (KO k) 1))) ∧ L' = SkR bS m1 o A c (lastL (ents p n (KO k) 1)) ++ [.blk b5 24 [vN n, vN m], .blk b4 23 (bys (k)), .blk b3 23 (bys (p))]) Try.func10 rfl rfl rfl (fun w1 H1 => (put_to (r := 9) (L' := lastL (ents p n (KO k) 1)) (⟨p, (n : Int), k⟩) lp lk (wf_i (n := (n : Int)) (by omega) (by omega)) (lastL_good (hg 1 (by omega))) (by rw [lastL_length]; omega) (put_again p k n) (show St _ _ (SkR bS m1 o1 A1 c1 (lastL (ents p n (KO k) 1)) ++ [.blk b5 24 [vN n, vN m], .blk b4 23 (bys (k)), .blk b3 23 (bys (p))]) w1 from H1) hE1).mono fun r w' h => ?_) rfl ?_
  · obtain ⟨h1, o, A, c, hE, h2⟩ := h
    exact ⟨_, _, h1, ⟨rfl, o, A, c, hE, rfl⟩, h2⟩
  rintro v L' ⟨rfl, o2, A2, c2, hE2, rfl⟩
  simp only [SkR, List.cons_append, List.nil_append, List.append_nil]
  refine vl_v (q_assign rfl) rfl ?_
  refine vl_nil ?_
  refine (th_n ?_)
  refine VC_seq ?_
  refine VC_seq ?_
  refine VC_region ?_
  refine vl_v (q_assign rfl) rfl ?_
  refine vl_nil ?_
  refine (th_n ?_)
  refine VC_block ?_
  refine VC_loop (ι := Nat × Obj × Option Addr × Nat) (fun x => x.1 ≤ m ∧ MapOf x.2.1 (mapE (lastL (ents p n (KO k) (x.1 + 1))))) (fun x => [(3, vP b3 0), (4, vP b4 0), (7, .bool true), (8, vN n), (9, vN m), (10, vP bS 0), (11, .int .i64 0), (12, .int .i64 9), (13, vN x.1)]) (fun x => SkR bS m1 x.2.1 x.2.2.1 x.2.2.2 (lastL (ents p n (KO k) (x.1 + 1))) ++ [.blk b5 24 [vN n, vN m], .blk b4 23 (bys (k)), .blk b3 23 (bys (p))]) (fun x => m - x.1) (0, o2, A2, c2) (⟨Nat.zero_le _, hE2⟩) (Sub.cons (s := 3) rfl (Sub.cons (s := 4) rfl (Sub.cons (s := 7) rfl (Sub.cons (s := 8) rfl (Sub.cons (s := 9) rfl (Sub.cons (s := 10) rfl (Sub.cons (s := 11) rfl (Sub.cons (s := 12) rfl (Sub.cons (s := 13) rfl (Sub.nil _)))))))))) (fun w' H => H) ?_
  rintro ⟨i, o, A, c⟩ hp
  obtain ⟨hp1, hE4⟩ := hp
  have hp1 : i ≤ m := hp1
  have hE4 : MapOf o (mapE (lastL (ents p n (KO k) (i + 1)))) := hE4
  dsimp only
  refine VC_seq ?_
  refine VC_seq ?_
  refine VC_region ?_
  refine vl_v (q_move rfl) rfl ?_
  refine vl_v (q_move rfl) rfl ?_
  first | (refine vl_v (q_lss_n Try.underlying3 rfl rfl) rfl ?_) | (refine vl_v (q_lss_k Try.underlying3 rfl rfl) rfl ?_)
  refine vl_nil ?_
  refine (th_n ?_)
  refine VC_cond rfl (fun ht61 => ?_) (fun ht61 => ?_)
  · skip
    have ht61 : i < m := of_decide_eq_true ht61
    refine VC_skip ?_
    refine (th_n ?_)
    refine VC_seq ?_
    refine VC_block ?_
    refine VC_seq ?_
    simp only [SkR, List.cons_append, List.nil_append, List.append_nil]
    refine VC_region ?_
    refine vl_v (q_move rfl) rfl ?_
    first | (refine vl_v (q_loads 5 Try.underlying23 rfl rfl rfl sz23 (by first | omega | with_reducible assumption | (simp only [zb, zu, zw, zi, za]; omega) | (simp only [zs, zr, zm, za, zb, zu, zw, zi, zt, zd, zc, zn, *] <;> first | done | omega) | rfl)) rfl ?_) | (refine vl_v (q_loadsAt 5 Try.underlying23 rfl rfl rfl sz23 (by rfl) (by first | omega | with_reducible assumption | (simp only [zb, zu, zw, zi, za]; omega) | (simp only [zs, zr, zm, za, zb, zu, zw, zi, zt, zd, zc, zn, *] <;> first | done | omega) | rfl)) rfl ?_)
    refine vl_v (q_move rfl) rfl ?_
    first | (refine vl_v (q_add_n (q := 1) rfl rfl (by omega)) rfl ?_) | (refine vl_v (q_add_i rfl rfl (by omega) (by omega)) rfl ?_)
    refine vl_v (q_move rfl) rfl ?_
    refine vl_v (q_as (v := vN (n + (i + 1))) (q_add_n (p := n + 1) (q := i) rfl rfl (by omega)) (by rw [show n + 1 + i = n + (i + 1) by omega])) rfl ?_
    refine vl_v (q_move rfl) rfl ?_
    refine vl_v (q_conv_k (r := ((UInt8.ofNat i).toNat : Int)) Try.underlying3 Try.underlying5 rfl (by rw [IntKind.wrap_u8, UInt8.toNat_ofNat']; omega)) rfl ?_
    refine vl_v (q_build (c' := bys (keyB (UInt8.ofNat i))) rfl (kB_build i)) rfl ?_
    refine l_call (F := fun v L' => v = .int .i64 (0) ∧ ∃ o A c, MapOf o (mapE (lastL (ents p n (KO k) (i + 1 + 1)))) ∧ L' = SkR bS m1 o A c (lastL (ents p n (KO k) (i + 1 + 1))) ++ [.blk b5 24 [vN n, vN m], .blk b4 23 (bys (k)), .blk b3 23 (bys (p))]) Try.func10 rfl rfl rfl (fun w1 H1 => (put_to (r := 0) (L' := lastL (ents p n (KO k) (i + 1 + 1))) (⟨p, ((n + (i + 1) : Nat) : Int), keyB (UInt8.ofNat i)⟩) lp (keyB_length _) (wf_i (n := ((n + (i + 1) : Nat) : Int)) (by omega) (by omega)) (lastL_good (hg _ (by omega))) (by rw [lastL_length]; omega) (put_ents (K := KO k) (i + 1)) (show St _ _ (SkR bS m1 o A c (lastL (ents p n (KO k) (i + 1))) ++ [.blk b5 24 [vN n, vN m], .blk b4 23 (bys (k)), .blk b3 23 (bys (p))]) w1 from H1) hE4).mono fun r w' h => ?_) rfl ?_
    · obtain ⟨h1, o, A, c, hE, h2⟩ := h
      exact ⟨_, _, h1, ⟨rfl, o, A, c, hE, rfl⟩, h2⟩
    rintro v L' ⟨rfl, o5, A5, c5, hE5, rfl⟩
    have hll := lastL_length (ents p n (KO k) (i + 1 + 1))
    simp only [SkR, List.cons_append, List.nil_append, List.append_nil]
    refine vl_v (q_false (q_neq_n (p := 0) (q := 0) Try.underlying28 rfl rfl) rfl) rfl ?_
    refine vl_v (q_move rfl) rfl ?_
    refine vl_vg rfl (q_move rfl) rfl ?_
    refine vl_vg rfl (q_callV Try.func11 rfl rfl rfl (fun w1 H1 => len_calls bS ((lastL (ents p n (KO k) (i + 1 + 1))).length) c5 _ A5 w1 (Reads.blk 0 rfl w1 H1))) rfl ?_
    refine vl_vg rfl (q_false (q_gtr_n (q := 8) Try.underlying3 rfl rfl) (by simp; omega)) rfl ?_
    first | (refine vl_v (q_pickT rfl rfl) rfl ?_) | (refine vl_v (q_pickF rfl rfl) rfl ?_)
    refine vl_nil ?_
    refine (th_n ?_)
    refine VC_no (rfl) ?_
    refine VC_skip ?_
    refine (bl_n (th_n ?_))
    refine VC_region ?_
    refine vl_v (q_move rfl) rfl ?_
    first | (refine vl_v (q_add_n (q := 1) rfl rfl (by omega)) rfl ?_) | (refine vl_v (q_add_i rfl rfl (by omega) (by omega)) rfl ?_)
    refine vl_v (q_assign rfl) rfl ?_
    refine vl_nil ?_
    refine (th_n ?_)
    refine ⟨(i + 1, o5, A5, c5), ⟨by show i + 1 ≤ m; omega, hE5⟩, by show m - (i + 1) < m - i; omega, (Sub.cons (s := 3) rfl (Sub.cons (s := 4) rfl (Sub.cons (s := 7) rfl (Sub.cons (s := 8) rfl (Sub.cons (s := 9) rfl (Sub.cons (s := 10) rfl (Sub.cons (s := 11) rfl (Sub.cons (s := 12) rfl (Sub.cons (s := 13) rfl (Sub.nil _)))))))))), fun w' H => H⟩
  · skip
    have ht61 := of_decide_eq_false ht61
    obtain rfl : i = m := by omega
    rw [lastL_mid] at hE4
    rw [lastL_mid]
    obtain ⟨ak, d, lak, hak, hak2, htk, hd1, hd2, hd3⟩ := ask_first (p := p) (k := k) (n := n) (m := i) lp lk hn hm
    obtain ⟨hs1, hs2⟩ := ask_second (p := p) (k := k) (n := n) (m := i) (d := d) hd1
    have hml := midL_length p n (KO k) d (i + 1)
    have hml0 := midL_length p n (KO k) (i + 1 - 8) (i + 1)
    refine VC_exit ?_
    refine (th_x (th_x (bl_xs (th_n ?_))))
    refine VC_seq ?_
    simp only [SkR, List.cons_append, List.nil_append, List.append_nil]
    refine VC_region ?_
    refine vl_v (q_move rfl) rfl ?_
    first | (refine vl_v (q_loads 5 Try.underlying23 rfl rfl rfl sz23 (by first | omega | with_reducible assumption | (simp only [zb, zu, zw, zi, za]; omega) | (simp only [zs, zr, zm, za, zb, zu, zw, zi, zt, zd, zc, zn, *] <;> first | done | omega) | rfl)) rfl ?_) | (refine vl_v (q_loadsAt 5 Try.underlying23 rfl rfl rfl sz23 (by rfl) (by first | omega | with_reducible assumption | (simp only [zb, zu, zw, zi, za]; omega) | (simp only [zs, zr, zm, za, zb, zu, zw, zi, zt, zd, zc, zn, *] <;> first | done | omega) | rfl)) rfl ?_)
    refine vl_v (q_move rfl) rfl ?_
    refine l_call (F := fun v L' => v = .tuple #[.agg (bys (ak)).toArray, .bool (decide (i < 8))] ∧ ∃ o A c, MapOf o (mapE (midL p n (KO k) d (i + 1))) ∧ L' = SkR bS m1 o A c (midL p n (KO k) d (i + 1)) ++ [.blk b5 24 [vN n, vN i], .blk b4 23 (bys (k)), .blk b3 23 (bys (p))]) Try.func12 rfl rfl rfl (fun w1 H1 => (take_to (ak := ak) (f := decide (i < 8)) (L' := midL p n (KO k) d (i + 1)) (p) ((n : Int)) lp (wf_i (by omega) (by omega)) (midL_good lp lK (by omega)) (by omega) hak htk (show St _ _ (SkR bS m1 o A c (midL p n (KO k) (i + 1 - 8) (i + 1)) ++ [.blk b5 24 [vN n, vN i], .blk b4 23 (bys (k)), .blk b3 23 (bys (p))]) w1 from H1) hE4).mono fun r w' h => ?_) rfl ?_
    · obtain ⟨h1, o, A, c, hE, h2⟩ := h
      exact ⟨_, _, h1, ⟨rfl, o, A, c, hE, rfl⟩, h2⟩
    rintro v L' ⟨rfl, o6, A6, c6, hE6, rfl⟩
    simp only [SkR, List.cons_append, List.nil_append, List.append_nil]
    refine vl_v (q_move rfl) rfl ?_
    refine vl_v (q_ext rfl rfl) rfl ?_
    refine vl_v (q_ext rfl rfl) rfl ?_
    by_cases hs86 : i < 8
    · skip
      rw [show decide (i < 8) = true from decide_eq_true hs86]
      refine l_allocA zr23 rfl ?_
      intro b14
      refine l_storeA 0 rfl rfl rfl sz23 (by first | omega | with_reducible assumption | (simp only [zb, zu, zw, zi, za]; omega) | (simp only [zs, zr, zm, za, zb, zu, zw, zi, zt, zd, zc, zn, *] <;> first | done | omega) | rfl) (by first | (with_reducible first | exact bys_one _ | exact u32s_one _ | exact u64s_one _ | exact i64s_one _ | exact n64s_one _ | assumption) | exact bys_one _ | exact u32s_one _ | exact u64s_one _ | exact i64s_one _ | exact one_all rfl | (refine app_one ?_ ?_ <;> first | exact bys_one _ | (simp; done))) (by first | omega | with_reducible assumption | (simp only [zb, zu, zw, zi, za]; omega) | (simp only [zs, zr, zm, za, zb, zu, zw, zi, zt, zd, zc, zn, *] <;> first | done | omega) | rfl) ?_
      simp only [List.set_cons_zero, List.set_cons_succ]
      refine vl_v (q_assign rfl) rfl ?_
      refine vl_nil ?_
      refine (th_n ?_)
      refine VC_seq ?_
      refine VC_pickL (ks := [1, 2, 3, 0, 4, 5, 6]) (by decide) rfl ?_
      refine VC_region ?_
      refine vl_v (q_move rfl) rfl ?_
      first | (refine vl_v (q_loads 6 Try.underlying23 rfl rfl rfl sz23 (by first | omega | with_reducible assumption | (simp only [zb, zu, zw, zi, za]; omega) | (simp only [zs, zr, zm, za, zb, zu, zw, zi, zt, zd, zc, zn, *] <;> first | done | omega) | rfl)) rfl ?_) | (refine vl_v (q_loadsAt 6 Try.underlying23 rfl rfl rfl sz23 (by rfl) (by first | omega | with_reducible assumption | (simp only [zb, zu, zw, zi, za]; omega) | (simp only [zs, zr, zm, za, zb, zu, zw, zi, zt, zd, zc, zn, *] <;> first | done | omega) | rfl)) rfl ?_)
      refine vl_v (q_move rfl) rfl ?_
      refine l_call (F := fun v L' => v = .tuple #[.agg (bys (zKey)).toArray, .bool (false)] ∧ ∃ o A c, MapOf o (mapE (midL p n (KO k) d (i + 1))) ∧ L' = SkR bS m1 o A c (midL p n (KO k) d (i + 1)) ++ [.blk b14 23 (bys (ak)), .blk b5 24 [vN n, vN i], .blk b4 23 (bys (k)), .blk b3 23 (bys (p))]) Try.func12 rfl rfl rfl (fun w1 H1 => (take_to (ak := zKey) (f := false) (L' := midL p n (KO k) d (i + 1)) (p) ((n : Int)) lp (wf_i (by omega) (by omega)) (midL_good lp lK (by omega)) (by omega) hs1 hs2 (show St _ _ (SkR bS m1 o6 A6 c6 (midL p n (KO k) d (i + 1)) ++ [.blk b14 23 (bys (ak)), .blk b5 24 [vN n, vN i], .blk b4 23 (bys (k)), .blk b3 23 (bys (p))]) w1 from H1) hE6).mono fun r w' h => ?_) rfl ?_
      · obtain ⟨h1, o, A, c, hE, h2⟩ := h
        exact ⟨_, _, h1, ⟨rfl, o, A, c, hE, rfl⟩, h2⟩
      rintro v L' ⟨rfl, o7, A7, c7, hE7, rfl⟩
      simp only [SkR, List.cons_append, List.nil_append, List.append_nil]
      refine vl_v (q_move rfl) rfl ?_
      refine vl_v (q_ext rfl rfl) rfl ?_
      refine vl_v (q_ext rfl rfl) rfl ?_
      refine l_allocA zr23 rfl ?_
      intro b16
      refine l_storeA 0 rfl rfl rfl sz23 (by first | omega | with_reducible assumption | (simp only [zb, zu, zw, zi, za]; omega) | (simp only [zs, zr, zm, za, zb, zu, zw, zi, zt, zd, zc, zn, *] <;> first | done | omega) | rfl) (by first | (with_reducible first | exact bys_one _ | exact u32s_one _ | exact u64s_one _ | exact i64s_one _ | exact n64s_one _ | assumption) | exact bys_one _ | exact u32s_one _ | exact u64s_one _ | exact i64s_one _ | exact one_all rfl | (refine app_one ?_ ?_ <;> first | exact bys_one _ | (simp; done))) (by first | omega | with_reducible assumption | (simp only [zb, zu, zw, zi, za]; omega) | (simp only [zs, zr, zm, za, zb, zu, zw, zi, zt, zd, zc, zn, *] <;> first | done | omega) | rfl) ?_
      simp only [List.set_cons_zero, List.set_cons_succ]
      refine vl_v (q_assign rfl) rfl ?_
      refine vl_nil ?_
      refine (th_n ?_)
      refine VC_seq ?_
      refine VC_pickL (ks := [1, 2, 3, 0, 4, 5, 6, 7]) (by decide) rfl ?_
      refine VC_region ?_
      refine vl_v (q_move rfl) rfl ?_
      first | (refine vl_v (q_loads 7 Try.underlying23 rfl rfl rfl sz23 (by first | omega | with_reducible assumption | (simp only [zb, zu, zw, zi, za]; omega) | (simp only [zs, zr, zm, za, zb, zu, zw, zi, zt, zd, zc, zn, *] <;> first | done | omega) | rfl)) rfl ?_) | (refine vl_v (q_loadsAt 7 Try.underlying23 rfl rfl rfl sz23 (by rfl) (by first | omega | with_reducible assumption | (simp only [zb, zu, zw, zi, za]; omega) | (simp only [zs, zr, zm, za, zb, zu, zw, zi, zt, zd, zc, zn, *] <;> first | done | omega) | rfl)) rfl ?_)
      refine vl_v (q_move rfl) rfl ?_
      refine vl_v (q_move rfl) rfl ?_
      first | (refine vl_v (q_add_n rfl rfl (by omega)) rfl ?_) | (refine vl_v (q_add_i rfl rfl (by omega) (by omega)) rfl ?_)
      refine l_call (F := fun v L' => v = .tuple #[.agg (bys (zKey)).toArray, .bool (false)] ∧ ∃ o A c, MapOf o (mapE (midL p n (KO k) d (i + 1))) ∧ L' = SkR bS m1 o A c (midL p n (KO k) d (i + 1)) ++ [.blk b16 23 (bys (zKey)), .blk b14 23 (bys (ak)), .blk b5 24 [vN n, vN i], .blk b4 23 (bys (k)), .blk b3 23 (bys (p))]) Try.func12 rfl rfl rfl (fun w1 H1 => (take_to (ak := zKey) (f := false) (L' := midL p n (KO k) d (i + 1)) (p) (((n + i : Nat) : Int)) lp (wf_i (by omega) (by omega)) (midL_good lp lK (by omega)) (by omega) (ask_out (.inl (by omega))) (take_out (.inl (by omega))) (show St _ _ (SkR bS m1 o7 A7 c7 (midL p n (KO k) d (i + 1)) ++ [.blk b16 23 (bys (zKey)), .blk b14 23 (bys (ak)), .blk b5 24 [vN n, vN i], .blk b4 23 (bys (k)), .blk b3 23 (bys (p))]) w1 from H1) hE7).mono fun r w' h => ?_) rfl ?_
      · obtain ⟨h1, o, A, c, hE, h2⟩ := h
        exact ⟨_, _, h1, ⟨rfl, o, A, c, hE, rfl⟩, h2⟩
      rintro v L' ⟨rfl, o8, A8, c8, hE8, rfl⟩
      simp only [SkR, List.cons_append, List.nil_append, List.append_nil]
      refine vl_v (q_move rfl) rfl ?_
      refine vl_v (q_ext rfl rfl) rfl ?_
      refine vl_v (q_ext rfl rfl) rfl ?_
      refine l_allocA zr23 rfl ?_
      intro b18
      refine l_storeA 0 rfl rfl rfl sz23 (by first | omega | with_reducible assumption | (simp only [zb, zu, zw, zi, za]; omega) | (simp only [zs, zr, zm, za, zb, zu, zw, zi, zt, zd, zc, zn, *] <;> first | done | omega) | rfl) (by first | (with_reducible first | exact bys_one _ | exact u32s_one _ | exact u64s_one _ | exact i64s_one _ | exact n64s_one _ | assumption) | exact bys_one _ | exact u32s_one _ | exact u64s_one _ | exact i64s_one _ | exact one_all rfl | (refine app_one ?_ ?_ <;> first | exact bys_one _ | (simp; done))) (by first | omega | with_reducible assumption | (simp only [zb, zu, zw, zi, za]; omega) | (simp only [zs, zr, zm, za, zb, zu, zw, zi, zt, zd, zc, zn, *] <;> first | done | omega) | rfl) ?_
      simp only [List.set_cons_zero, List.set_cons_succ]
      refine vl_v (q_assign rfl) rfl ?_
      refine vl_nil ?_
      refine (th_n ?_)
      refine VC_seq ?_
      refine VC_seq ?_
      refine VC_region ?_
      refine vl_v (q_move rfl) rfl ?_
      refine vl_v (q_false (q_gtr_n (q := 0) Try.underlying3 rfl rfl) (by simp; omega)) rfl ?_
      refine vl_v (q_move rfl) rfl ?_
      refine vl_skip rfl rfl ?_
      refine vl_skip rfl rfl ?_
      refine vl_skip rfl rfl ?_
      refine vl_skip rfl rfl ?_
      refine vl_skip rfl rfl ?_
      refine vl_skip rfl rfl ?_
      refine vl_skip rfl rfl ?_
      refine vl_skip rfl rfl ?_
      refine vl_skip rfl rfl ?_
      refine vl_skip rfl rfl ?_
      first | (refine vl_v (q_pickT rfl rfl) rfl ?_) | (refine vl_v (q_pickF rfl rfl) rfl ?_)
      refine vl_nil ?_
      refine (th_n ?_)
      refine VC_no (rfl) ?_
      refine VC_skip ?_
      refine (th_n ?_)
      refine VC_seq ?_
      refine VC_region ?_
      refine vl_v (q_move rfl) rfl ?_
      refine vl_v (q_move rfl) rfl ?_
      refine vl_vg rfl (q_move rfl) rfl ?_
      refine vl_vg rfl (q_true (q_eql_n (q := 0) Try.underlying28 rfl rfl) (decide_eq_true rfl)) rfl ?_
      first | (refine vl_v (q_pickT rfl rfl) rfl ?_) | (refine vl_v (q_pickF rfl rfl) rfl ?_)
      refine vl_v (q_move rfl) rfl ?_
      refine vl_vg rfl (q_move rfl) rfl ?_
      refine vl_vg rfl (q_true (q_eql_n (p := 9) (q := 9) Try.underlying28 rfl rfl) (decide_eq_true rfl)) rfl ?_
      first | (refine vl_v (q_pickT rfl rfl) rfl ?_) | (refine vl_v (q_pickF rfl rfl) rfl ?_)
      refine vl_v (q_move rfl) rfl ?_
      refine vl_vg rfl (q_move rfl) rfl ?_
      refine vl_vg rfl (q_move rfl) rfl ?_
      first | (refine vl_vg rfl (q_lss_n (q := 8) Try.underlying3 rfl rfl) rfl ?_) | (refine vl_vg rfl (q_lss_k Try.underlying3 rfl rfl) rfl ?_)
      refine vl_vg rfl (q_as (v := .bool true) (q_eqBo Try.underlying4 rfl rfl) (by simp [hs86])) rfl ?_
      first | (refine vl_v (q_pickT rfl rfl) rfl ?_) | (refine vl_v (q_pickF rfl rfl) rfl ?_)
      refine vl_v (q_move rfl) rfl ?_
      refine vl_vg rfl (q_move rfl) rfl ?_
      refine vl_vg rfl (q_not rfl) rfl ?_
      refine vl_vg rfl (q_move rfl) rfl ?_
      first | (refine vl_vg rfl (q_loads 5 Try.underlying23 rfl rfl rfl sz23 (by first | omega | with_reducible assumption | (simp only [zb, zu, zw, zi, za]; omega) | (simp only [zs, zr, zm, za, zb, zu, zw, zi, zt, zd, zc, zn, *] <;> first | done | omega) | rfl)) rfl ?_) | (refine vl_vg rfl (q_loadsAt 5 Try.underlying23 rfl rfl rfl sz23 (by rfl) (by first | omega | with_reducible assumption | (simp only [zb, zu, zw, zi, za]; omega) | (simp only [zs, zr, zm, za, zb, zu, zw, zi, zt, zd, zc, zn, *] <;> first | done | omega) | rfl)) rfl ?_)
      first | (refine vl_vg rfl (q_loads 7 Try.underlying23 rfl rfl rfl sz23 (by first | omega | with_reducible assumption | (simp only [zb, zu, zw, zi, za]; omega) | (simp only [zs, zr, zm, za, zb, zu, zw, zi, zt, zd, zc, zn, *] <;> first | done | omega) | rfl)) rfl ?_) | (refine vl_vg rfl (q_loadsAt 7 Try.underlying23 rfl rfl rfl sz23 (by rfl) (by first | omega | with_reducible assumption | (simp only [zb, zu, zw, zi, za]; omega) | (simp only [zs, zr, zm, za, zb, zu, zw, zi, zt, zd, zc, zn, *] <;> first | done | omega) | rfl)) rfl ?_)
      refine vl_vg rfl (q_eqT flatKey rfl rfl (fits_bys' lak) (congrArg bys (hak2 hs86))) rfl ?_
      first | (refine vl_vg rfl (q_pickT rfl rfl) rfl ?_) | (refine vl_vg rfl (q_pickF rfl rfl) rfl ?_)
      first | (refine vl_v (q_pickT rfl rfl) rfl ?_) | (refine vl_v (q_pickF rfl rfl) rfl ?_)
      refine vl_v (q_move rfl) rfl ?_
      refine vl_vg rfl (q_move rfl) rfl ?_
      refine vl_vg rfl (q_not rfl) rfl ?_
      first | (refine vl_v (q_pickT rfl rfl) rfl ?_) | (refine vl_v (q_pickF rfl rfl) rfl ?_)
      refine vl_v (q_assign rfl) rfl ?_
      refine vl_nil ?_
      refine (th_n ?_)
      refine VC_ret ?_
      refine ⟨_, res1 rfl rfl, ?_⟩
      exact rfl
    · skip
      rw [show decide (i < 8) = false from decide_eq_false hs86]
      refine l_allocA zr23 rfl ?_
      intro b14
      refine l_storeA 0 rfl rfl rfl sz23 (by first | omega | with_reducible assumption | (simp only [zb, zu, zw, zi, za]; omega) | (simp only [zs, zr, zm, za, zb, zu, zw, zi, zt, zd, zc, zn, *] <;> first | done | omega) | rfl) (by first | (with_reducible first | exact bys_one _ | exact u32s_one _ | exact u64s_one _ | exact i64s_one _ | exact n64s_one _ | assumption) | exact bys_one _ | exact u32s_one _ | exact u64s_one _ | exact i64s_one _ | exact one_all rfl | (refine app_one ?_ ?_ <;> first | exact bys_one _ | (simp; done))) (by first | omega | with_reducible assumption | (simp only [zb, zu, zw, zi, za]; omega) | (simp only [zs, zr, zm, za, zb, zu, zw, zi, zt, zd, zc, zn, *] <;> first | done | omega) | rfl) ?_
      simp only [List.set_cons_zero, List.set_cons_succ]
      refine vl_v (q_assign rfl) rfl ?_
      refine vl_nil ?_
      refine (th_n ?_)
      refine VC_seq ?_
      refine VC_pickL (ks := [1, 2, 3, 0, 4, 5, 6]) (by decide) rfl ?_
      refine VC_region ?_
      refine vl_v (q_move rfl) rfl ?_
      first | (refine vl_v (q_loads 6 Try.underlying23 rfl rfl rfl sz23 (by first | omega | with_reducible assumption | (simp only [zb, zu, zw, zi, za]; omega) | (simp only [zs, zr, zm, za, zb, zu, zw, zi, zt, zd, zc, zn, *] <;> first | done | omega) | rfl)) rfl ?_) | (refine vl_v (q_loadsAt 6 Try.underlying23 rfl rfl rfl sz23 (by rfl) (by first | omega | with_reducible assumption | (simp only [zb, zu, zw, zi, za]; omega) | (simp only [zs, zr, zm, za, zb, zu, zw, zi, zt, zd, zc, zn, *] <;> first | done | omega) | rfl)) rfl ?_)
      refine vl_v (q_move rfl) rfl ?_
      refine l_call (F := fun v L' => v = .tuple #[.agg (bys (zKey)).toArray, .bool (false)] ∧ ∃ o A c, MapOf o (mapE (midL p n (KO k) d (i + 1))) ∧ L' = SkR bS m1 o A c (midL p n (KO k) d (i + 1)) ++ [.blk b14 23 (bys (ak)), .blk b5 24 [vN n, vN i], .blk b4 23 (bys (k)), .blk b3 23 (bys (p))]) Try.func12 rfl rfl rfl (fun w1 H1 => (take_to (ak := zKey) (f := false) (L' := midL p n (KO k) d (i + 1)) (p) ((n : Int)) lp (wf_i (by omega) (by omega)) (midL_good lp lK (by omega)) (by omega) hs1 hs2 (show St _ _ (SkR bS m1 o6 A6 c6 (midL p n (KO k) d (i + 1)) ++ [.blk b14 23 (bys (ak)), .blk b5 24 [vN n, vN i], .blk b4 23 (bys (k)), .blk b3 23 (bys (p))]) w1 from H1) hE6).mono fun r w' h => ?_) rfl ?_
      · obtain ⟨h1, o, A, c, hE, h2⟩ := h
        exact ⟨_, _, h1, ⟨rfl, o, A, c, hE, rfl⟩, h2⟩
      rintro v L' ⟨rfl, o7, A7, c7, hE7, rfl⟩
      simp only [SkR, List.cons_append, List.nil_append, List.append_nil]
      refine vl_v (q_move rfl) rfl ?_
      refine vl_v (q_ext rfl rfl) rfl ?_
      refine vl_v (q_ext rfl rfl) rfl ?_
      refine l_allocA zr23 rfl ?_
      intro b16
      refine l_storeA 0 rfl rfl rfl sz23 (by first | omega | with_reducible assumption | (simp only [zb, zu, zw, zi, za]; omega) | (simp only [zs, zr, zm, za, zb, zu, zw, zi, zt, zd, zc, zn, *] <;> first | done | omega) | rfl) (by first | (with_reducible first | exact bys_one _ | exact u32s_one _ | exact u64s_one _ | exact i64s_one _ | exact n64s_one _ | assumption) | exact bys_one _ | exact u32s_one _ | exact u64s_one _ | exact i64s_one _ | exact one_all rfl | (refine app_one ?_ ?_ <;> first | exact bys_one _ | (simp; done))) (by first | omega | with_reducible assumption | (simp only [zb, zu, zw, zi, za]; omega) | (simp only [zs, zr, zm, za, zb, zu, zw, zi, zt, zd, zc, zn, *] <;> first | done | omega) | rfl) ?_
      simp only [List.set_cons_zero, List.set_cons_succ]
      refine vl_v (q_assign rfl) rfl ?_
      refine vl_nil ?_
      refine (th_n ?_)
      refine VC_seq ?_
      refine VC_pickL (ks := [1, 2, 3, 0, 4, 5, 6, 7]) (by decide) rfl ?_
      refine VC_region ?_
      refine vl_v (q_move rfl) rfl ?_
      first | (refine vl_v (q_loads 7 Try.underlying23 rfl rfl rfl sz23 (by first | omega | with_reducible assumption | (simp only [zb, zu, zw, zi, za]; omega) | (simp only [zs, zr, zm, za, zb, zu, zw, zi, zt, zd, zc, zn, *] <;> first | done | omega) | rfl)) rfl ?_) | (refine vl_v (q_loadsAt 7 Try.underlying23 rfl rfl rfl sz23 (by rfl) (by first | omega | with_reducible assumption | (simp only [zb, zu, zw, zi, za]; omega) | (simp only [zs, zr, zm, za, zb, zu, zw, zi, zt, zd, zc, zn, *] <;> first | done | omega) | rfl)) rfl ?_)
      refine vl_v (q_move rfl) rfl ?_
      refine vl_v (q_move rfl) rfl ?_
      first | (refine vl_v (q_add_n rfl rfl (by omega)) rfl ?_) | (refine vl_v (q_add_i rfl rfl (by omega) (by omega)) rfl ?_)
      refine l_call (F := fun v L' => v = .tuple #[.agg (bys (zKey)).toArray, .bool (false)] ∧ ∃ o A c, MapOf o (mapE (midL p n (KO k) d (i + 1))) ∧ L' = SkR bS m1 o A c (midL p n (KO k) d (i + 1)) ++ [.blk b16 23 (bys (zKey)), .blk b14 23 (bys (ak)), .blk b5 24 [vN n, vN i], .blk b4 23 (bys (k)), .blk b3 23 (bys (p))]) Try.func12 rfl rfl rfl (fun w1 H1 => (take_to (ak := zKey) (f := false) (L' := midL p n (KO k) d (i + 1)) (p) (((n + i : Nat) : Int)) lp (wf_i (by omega) (by omega)) (midL_good lp lK (by omega)) (by omega) (ask_out (.inl (by omega))) (take_out (.inl (by omega))) (show St _ _ (SkR bS m1 o7 A7 c7 (midL p n (KO k) d (i + 1)) ++ [.blk b16 23 (bys (zKey)), .blk b14 23 (bys (ak)), .blk b5 24 [vN n, vN i], .blk b4 23 (bys (k)), .blk b3 23 (bys (p))]) w1 from H1) hE7).mono fun r w' h => ?_) rfl ?_
      · obtain ⟨h1, o, A, c, hE, h2⟩ := h
        exact ⟨_, _, h1, ⟨rfl, o, A, c, hE, rfl⟩, h2⟩
      rintro v L' ⟨rfl, o8, A8, c8, hE8, rfl⟩
      simp only [SkR, List.cons_append, List.nil_append, List.append_nil]
      refine vl_v (q_move rfl) rfl ?_
      refine vl_v (q_ext rfl rfl) rfl ?_
      refine vl_v (q_ext rfl rfl) rfl ?_
      refine l_allocA zr23 rfl ?_
      intro b18
      refine l_storeA 0 rfl rfl rfl sz23 (by first | omega | with_reducible assumption | (simp only [zb, zu, zw, zi, za]; omega) | (simp only [zs, zr, zm, za, zb, zu, zw, zi, zt, zd, zc, zn, *] <;> first | done | omega) | rfl) (by first | (with_reducible first | exact bys_one _ | exact u32s_one _ | exact u64s_one _ | exact i64s_one _ | exact n64s_one _ | assumption) | exact bys_one _ | exact u32s_one _ | exact u64s_one _ | exact i64s_one _ | exact one_all rfl | (refine app_one ?_ ?_ <;> first | exact bys_one _ | (simp; done))) (by first | omega | with_reducible assumption | (simp only [zb, zu, zw, zi, za]; omega) | (simp only [zs, zr, zm, za, zb, zu, zw, zi, zt, zd, zc, zn, *] <;> first | done | omega) | rfl) ?_
      simp only [List.set_cons_zero, List.set_cons_succ]
      refine vl_v (q_assign rfl) rfl ?_
      refine vl_nil ?_
      refine (th_n ?_)
      refine VC_seq ?_
      refine VC_seq ?_
      refine VC_region ?_
      refine vl_v (q_move rfl) rfl ?_
      refine vl_v (q_false (q_gtr_n (q := 0) Try.underlying3 rfl rfl) (by simp; omega)) rfl ?_
      refine vl_v (q_move rfl) rfl ?_
      refine vl_skip rfl rfl ?_
      refine vl_skip rfl rfl ?_
      refine vl_skip rfl rfl ?_
      refine vl_skip rfl rfl ?_
      refine vl_skip rfl rfl ?_
      refine vl_skip rfl rfl ?_
      refine vl_skip rfl rfl ?_
      refine vl_skip rfl rfl ?_
      refine vl_skip rfl rfl ?_
      refine vl_skip rfl rfl ?_
      first | (refine vl_v (q_pickT rfl rfl) rfl ?_) | (refine vl_v (q_pickF rfl rfl) rfl ?_)
      refine vl_nil ?_
      refine (th_n ?_)
      refine VC_no (rfl) ?_
      refine VC_skip ?_
      refine (th_n ?_)
      refine VC_seq ?_
      refine VC_region ?_
      refine vl_v (q_move rfl) rfl ?_
      refine vl_v (q_move rfl) rfl ?_
      refine vl_vg rfl (q_move rfl) rfl ?_
      refine vl_vg rfl (q_true (q_eql_n (q := 0) Try.underlying28 rfl rfl) (decide_eq_true rfl)) rfl ?_
      first | (refine vl_v (q_pickT rfl rfl) rfl ?_) | (refine vl_v (q_pickF rfl rfl) rfl ?_)
      refine vl_v (q_move rfl) rfl ?_
      refine vl_vg rfl (q_move rfl) rfl ?_
      refine vl_vg rfl (q_true (q_eql_n (p := 9) (q := 9) Try.underlying28 rfl rfl) (decide_eq_true rfl)) rfl ?_
      first | (refine vl_v (q_pickT rfl rfl) rfl ?_) | (refine vl_v (q_pickF rfl rfl) rfl ?_)
      refine vl_v (q_move rfl) rfl ?_
      refine vl_vg rfl (q_move rfl) rfl ?_
      refine vl_vg rfl (q_move rfl) rfl ?_
      first | (refine vl_vg rfl (q_lss_n (q := 8) Try.underlying3 rfl rfl) rfl ?_) | (refine vl_vg rfl (q_lss_k Try.underlying3 rfl rfl) rfl ?_)
      refine vl_vg rfl (q_as (v := .bool true) (q_eqBo Try.underlying4 rfl rfl) (by simp [hs86])) rfl ?_
      first | (refine vl_v (q_pickT rfl rfl) rfl ?_) | (refine vl_v (q_pickF rfl rfl) rfl ?_)
      refine vl_v (q_move rfl) rfl ?_
      refine vl_vg rfl (q_move rfl) rfl ?_
      refine vl_vg rfl (q_not rfl) rfl ?_
      refine vl_vg rfl (q_move rfl) rfl ?_
      refine vl_skip rfl rfl ?_
      refine vl_skip rfl rfl ?_
      refine vl_skip rfl rfl ?_
      first | (refine vl_vg rfl (q_pickT rfl rfl) rfl ?_) | (refine vl_vg rfl (q_pickF rfl rfl) rfl ?_)
      first | (refine vl_v (q_pickT rfl rfl) rfl ?_) | (refine vl_v (q_pickF rfl rfl) rfl ?_)
      refine vl_v (q_move rfl) rfl ?_
      refine vl_vg rfl (q_move rfl) rfl ?_
      refine vl_vg rfl (q_not rfl) rfl ?_
      first | (refine vl_v (q_pickT rfl rfl) rfl ?_) | (refine vl_v (q_pickF rfl rfl) rfl ?_)
      refine vl_v (q_assign rfl) rfl ?_
      refine vl_nil ?_
      refine (th_n ?_)
      refine VC_ret ?_
      refine ⟨_, res1 rfl rfl, ?_⟩
      exact rfl
set_option maxHeartbeats 1000000 in
theorem once_bad (p k : List UInt8) (n m : Int) (lp : p.length = 32) (lk : k.length = 32) (hn : ¬ (0 ≤ n ∧ n ≤ 1000 ∧ 0 ≤ m ∧ m ≤ 20)) (w : World) :
    Calls Try.prog 3 #[.agg (bys p).toArray, .agg (bys k).toArray, .agg #[vI n, vI m]] w fun e w' => e = .returned (.bool true) ∧ Kept [] w w' := by
  refine enter (n := 145) (R := fun e L => e = .returned (.bool true)) [.agg (bys p).toArray, .agg (bys k).toArray, .agg #[vI n, vI m]] Try.func3 rfl rfl rfl (St.refl w) ?_ (fun e w' L' h H => ⟨h, H.kept⟩)
  refine VC_seq ?_
  refine VC_region ?_
  refine l_boxA rfl rfl ?_
  intro b3
  refine l_boxA rfl rfl ?_
  intro b4
  refine l_boxA rfl rfl ?_
  intro b5
  refine vl_v (q_assign rfl) rfl ?_
  refine vl_nil ?_
  refine (th_n ?_)
  refine VC_seq ?_
  refine VC_region ?_
  refine vl_v (q_callV Try.func8 rfl rfl rfl (fun w1 H1 => awake11_calls w1)) rfl ?_
  refine vl_v (q_assign rfl) rfl ?_
  refine vl_nil ?_
  refine (th_n ?_)
  refine VC_seq ?_
  refine VC_region ?_
  first | (refine vl_v (q_idxA (m := 0) Try.underlying24 sz3 rfl rfl (by omega) (r := _) (by rw [Nat.mul_one, Nat.zero_add])) rfl ?_) | (refine vl_v (q_idxA (m := 0) Try.underlying24 sz3 rfl rfl (by omega) rfl) rfl ?_)
  first | (refine vl_v (q_load 0 Try.underlying3 rfl rfl rfl (i64s_at (by first | omega | with_reducible assumption | (simp only [zb, zu, zw, zi, za]; omega) | (simp only [zs, zr, zm, za, zb, zu, zw, zi, zt, zd, zc, zn, *] <;> first | done | omega) | rfl))) rfl ?_) | (refine vl_v (q_load 0 Try.underlying3 rfl rfl rfl rfl) rfl ?_)
  refine vl_v (q_assign rfl) rfl ?_
  refine vl_nil ?_
  refine (th_n ?_)
  refine VC_seq ?_
  refine VC_region ?_
  first | (refine vl_v (q_idxA (m := 1) Try.underlying24 sz3 rfl rfl (by omega) (r := _) (by rw [Nat.mul_one, Nat.zero_add])) rfl ?_) | (refine vl_v (q_idxA (m := 1) Try.underlying24 sz3 rfl rfl (by omega) rfl) rfl ?_)
  first | (refine vl_v (q_load 0 Try.underlying3 rfl rfl rfl (i64s_at (by first | omega | with_reducible assumption | (simp only [zb, zu, zw, zi, za]; omega) | (simp only [zs, zr, zm, za, zb, zu, zw, zi, zt, zd, zc, zn, *] <;> first | done | omega) | rfl))) rfl ?_) | (refine vl_v (q_load 0 Try.underlying3 rfl rfl rfl rfl) rfl ?_)
  refine vl_v (q_assign rfl) rfl ?_
  refine vl_nil ?_
  refine (th_n ?_)
  refine VC_seq ?_
  refine VC_region ?_
  refine l_call (F := fun v L' => ∃ bS' mm oo AA cc, v = vP bS' 0 ∧ MapOf oo (mapE []) ∧ L' = SkR bS' mm oo AA cc [] ++ [.blk b5 24 [vI n, vI m], .blk b4 23 (bys (k)), .blk b3 23 (bys (p))]) Try.func9 rfl rfl rfl (fun w1 H1 => (new_calls w1).mono fun e w' h => ?_) rfl ?_
  · obtain ⟨bS', mm, h1, oo, AA, cc, hE, h2⟩ := h
    rw [List.append_nil] at h2
    exact ⟨_, _, h1, ⟨bS', mm, oo, AA, cc, rfl, hE, rfl⟩, (H1.join h2).perm List.perm_append_comm⟩
  rintro v L' ⟨bS, m1, o0, A0, c0, rfl, hE0, rfl⟩
  simp only [SkR, List.cons_append, List.nil_append, List.append_nil]
  refine vl_v (q_assign rfl) rfl ?_
  refine vl_nil ?_
  refine (th_n ?_)
  refine VC_seq ?_
  refine VC_seq ?_
  refine VC_region ?_
  refine vl_v (q_move rfl) rfl ?_
  refine vl_v (q_eqPN Try.underlying26 rfl rfl) rfl ?_
  refine vl_v (q_move rfl) rfl ?_
  refine vl_vg rfl (q_move rfl) rfl ?_
  refine vl_vg rfl (q_as (v := .bool (decide (n < 0))) (q_lss_k (q := 0) Try.underlying3 rfl rfl) (by simp)) rfl ?_
  by_cases hs30 : n < 0
  · skip
    rw [show decide (n < 0) = true from decide_eq_true hs30]
    first | (refine vl_v (q_pickT rfl rfl) rfl ?_) | (refine vl_v (q_pickF rfl rfl) rfl ?_)
    refine vl_v (q_move rfl) rfl ?_
    refine vl_skip rfl rfl ?_
    refine vl_skip rfl rfl ?_
    first | (refine vl_v (q_pickT rfl rfl) rfl ?_) | (refine vl_v (q_pickF rfl rfl) rfl ?_)
    refine vl_v (q_move rfl) rfl ?_
    refine vl_skip rfl rfl ?_
    refine vl_skip rfl rfl ?_
    first | (refine vl_v (q_pickT rfl rfl) rfl ?_) | (refine vl_v (q_pickF rfl rfl) rfl ?_)
    refine vl_v (q_move rfl) rfl ?_
    refine vl_skip rfl rfl ?_
    refine vl_skip rfl rfl ?_
    first | (refine vl_v (q_pickT rfl rfl) rfl ?_) | (refine vl_v (q_pickF rfl rfl) rfl ?_)
    refine vl_nil ?_
    refine (th_n ?_)
    refine VC_yes (rfl) ?_
    refine VC_seq ?_
    refine VC_region ?_
    refine vl_v (q_move rfl) rfl ?_
    refine vl_v (q_move rfl) rfl ?_
    refine vl_vg rfl (q_move rfl) rfl ?_
    refine vl_vg rfl (q_nePN Try.underlying26 rfl rfl) rfl ?_
    first | (refine vl_v (q_pickT rfl rfl) rfl ?_) | (refine vl_v (q_pickF rfl rfl) rfl ?_)
    refine vl_v (q_assign rfl) rfl ?_
    refine vl_nil ?_
    refine (th_n ?_)
    refine VC_ret ?_
    refine (th_r ?_)
    refine ⟨_, res1 rfl rfl, ?_⟩
    exact rfl
  · skip
    rw [show decide (n < 0) = false from decide_eq_false hs30]
    first | (refine vl_v (q_pickT rfl rfl) rfl ?_) | (refine vl_v (q_pickF rfl rfl) rfl ?_)
    refine vl_v (q_move rfl) rfl ?_
    refine vl_vg rfl (q_move rfl) rfl ?_
    refine vl_vg rfl (q_as (v := .bool (decide (1000 < n))) (q_gtr_k (q := 1000) Try.underlying3 rfl rfl) (by simp)) rfl ?_
    by_cases hs34 : 1000 < n
    · skip
      rw [show decide (1000 < n) = true from decide_eq_true hs34]
      first | (refine vl_v (q_pickT rfl rfl) rfl ?_) | (refine vl_v (q_pickF rfl rfl) rfl ?_)
      refine vl_v (q_move rfl) rfl ?_
      refine vl_skip rfl rfl ?_
      refine vl_skip rfl rfl ?_
      first | (refine vl_v (q_pickT rfl rfl) rfl ?_) | (refine vl_v (q_pickF rfl rfl) rfl ?_)
      refine vl_v (q_move rfl) rfl ?_
      refine vl_skip rfl rfl ?_
      refine vl_skip rfl rfl ?_
      first | (refine vl_v (q_pickT rfl rfl) rfl ?_) | (refine vl_v (q_pickF rfl rfl) rfl ?_)
      refine vl_nil ?_
      refine (th_n ?_)
      refine VC_yes (rfl) ?_
      refine VC_seq ?_
      refine VC_region ?_
      refine vl_v (q_move rfl) rfl ?_
      refine vl_v (q_move rfl) rfl ?_
      refine vl_vg rfl (q_move rfl) rfl ?_
      refine vl_vg rfl (q_nePN Try.underlying26 rfl rfl) rfl ?_
      first | (refine vl_v (q_pickT rfl rfl) rfl ?_) | (refine vl_v (q_pickF rfl rfl) rfl ?_)
      refine vl_v (q_assign rfl) rfl ?_
      refine vl_nil ?_
      refine (th_n ?_)
      refine VC_ret ?_
      refine (th_r ?_)
      refine ⟨_, res1 rfl rfl, ?_⟩
      exact rfl
    · skip
      rw [show decide (1000 < n) = false from decide_eq_false hs34]
      first | (refine vl_v (q_pickT rfl rfl) rfl ?_) | (refine vl_v (q_pickF rfl rfl) rfl ?_)
      refine vl_v (q_move rfl) rfl ?_
      refine vl_vg rfl (q_move rfl) rfl ?_
      refine vl_vg rfl (q_as (v := .bool (decide (m < 0))) (q_lss_k (q := 0) Try.underlying3 rfl rfl) (by simp)) rfl ?_
      by_cases hs38 : m < 0
      · skip
        rw [show decide (m < 0) = true from decide_eq_true hs38]
        first | (refine vl_v (q_pickT rfl rfl) rfl ?_) | (refine vl_v (q_pickF rfl rfl) rfl ?_)
        refine vl_v (q_move rfl) rfl ?_
        refine vl_skip rfl rfl ?_
        refine vl_skip rfl rfl ?_
        first | (refine vl_v (q_pickT rfl rfl) rfl ?_) | (refine vl_v (q_pickF rfl rfl) rfl ?_)
        refine vl_nil ?_
        refine (th_n ?_)
        refine VC_yes (rfl) ?_
        refine VC_seq ?_
        refine VC_region ?_
        refine vl_v (q_move rfl) rfl ?_
        refine vl_v (q_move rfl) rfl ?_
        refine vl_vg rfl (q_move rfl) rfl ?_
        refine vl_vg rfl (q_nePN Try.underlying26 rfl rfl) rfl ?_
        first | (refine vl_v (q_pickT rfl rfl) rfl ?_) | (refine vl_v (q_pickF rfl rfl) rfl ?_)
        refine vl_v (q_assign rfl) rfl ?_
        refine vl_nil ?_
        refine (th_n ?_)
        refine VC_ret ?_
        refine (th_r ?_)
        refine ⟨_, res1 rfl rfl, ?_⟩
        exact rfl
      · skip
        rw [show decide (m < 0) = false from decide_eq_false hs38]
        first | (refine vl_v (q_pickT rfl rfl) rfl ?_) | (refine vl_v (q_pickF rfl rfl) rfl ?_)
        refine vl_v (q_move rfl) rfl ?_
        refine vl_vg rfl (q_move rfl) rfl ?_
        refine vl_vg rfl (q_as (v := .bool true) (q_gtr_k (q := 20) Try.underlying3 rfl rfl) (by simp; omega)) rfl ?_
        first | (refine vl_v (q_pickT rfl rfl) rfl ?_) | (refine vl_v (q_pickF rfl rfl) rfl ?_)
        refine vl_nil ?_
        refine (th_n ?_)
        refine VC_yes (rfl) ?_
        refine VC_seq ?_
        refine VC_region ?_
        refine vl_v (q_move rfl) rfl ?_
        refine vl_v (q_move rfl) rfl ?_
        refine vl_vg rfl (q_move rfl) rfl ?_
        refine vl_vg rfl (q_nePN Try.underlying26 rfl rfl) rfl ?_
        first | (refine vl_v (q_pickT rfl rfl) rfl ?_) | (refine vl_v (q_pickF rfl rfl) rfl ?_)
        refine vl_v (q_assign rfl) rfl ?_
        refine vl_nil ?_
        refine (th_n ?_)
        refine VC_ret ?_
        refine (th_r ?_)
        refine ⟨_, res1 rfl rfl, ?_⟩
        exact rfl
theorem skipsOnce.walk (w : World) (v0 : Value) (p : List UInt8) (h0 : KeyV v0 p) (v1 : Value) (k : List UInt8) (h1 : KeyV v1 k) (v2 : Value) (q : Int × Int) (h2 : PairV v2 q) :
    Calls Try.prog 3 #[v0, v1, v2] w fun e w' => e = .returned (.bool true) ∧ Kept [] w w' := by
  obtain ⟨rfl, lp⟩ := h0
  obtain ⟨rfl, lk⟩ := h1
  obtain rfl := h2
  obtain ⟨n, m⟩ := q
  by_cases hn : 0 ≤ n ∧ n ≤ 1000 ∧ 0 ≤ m ∧ m ≤ 20
  · obtain ⟨a, rfl⟩ : ∃ a : Nat, n = a := ⟨n.toNat, by omega⟩
    obtain ⟨b, rfl⟩ : ∃ b : Nat, m = b := ⟨m.toNat, by omega⟩
    by_cases h0 : 0 < b
    · exact once_pos p k a b lp lk (by omega) (by omega) h0 w
    · exact once_zero p k a b lp lk (by omega) (by omega) (by omega) w
  · exact once_bad p k n m lp lk hn w

namespace skipsOnce
open Go.ChangeShapes Go.WideShapes Go.ChangeAt Go.RowKit
theorem own : ownKnob Try.prog.godebug = none := by kernel_rfl
theorem laidOut : laidOutB Try.prog = true := by kernel_rfl
set_option maxRecDepth 100000 in
theorem lifted (os : Os) (started : os.Started) (H : Type) (enc : TypeId × Value → H) :
    ReturnsInHanded {} Try.checked os 3 .any (Rows.skipsOnceSpec.pre6 enc Try.prog Try.f3 Rows.skipsOnceRow.domain false) (Rows.skipsOnceSpec.post enc Try.prog Try.f3 false true false false) := by
  refine returnsInHanded_of_change (C := Try.checked) own started (by kernel_rfl) Try.func3
    (ChangeSpec.witness6 (enc := enc) (C := Try.checked) false ⟨#[], #[(.agg (List.replicate 32 (Value.int .u8 0)).toArray), (.agg (List.replicate 32 (Value.int .u8 0)).toArray), (.agg #[.int .i64 0, .int .i64 0])], []⟩ 8 (by kernel_rfl) (by kernel_rfl) (by kernel_rfl) (by kernel_rfl)) ?_
  intro W base args ds gs before hval0 hW hcnd _
  have hval : ∀ (j : Nat) t v, Try.f3.params[j]? = some t → args[j]? = some v → Value.okWide Try.prog W .any base t v := hval0
  have hW' := hW
  obtain ⟨p, q, hA0, hV, rfl, hfz, hnd⟩ := hW
  have hA : DataW.TrodAll enc Try.prog W 0 (fun _ => true) true Try.f3.params.toList args.toList ds p := hA0
  rw [Try.params3] at hA hval
  obtain ⟨v0, vs0, d0, ds0, p0, q0, hargs, rfl, rfl, h0, r0⟩ := trodAll_cons hA
  obtain ⟨v1, vs1, d1, ds1, p1, q1, rfl, rfl, rfl, h1, r1⟩ := trodAll_cons r0
  obtain ⟨v2, vs2, d2, ds2, p2, q2, rfl, rfl, rfl, h2, r2⟩ := trodAll_cons r1
  obtain ⟨rfl, rfl, rfl⟩ := trodAll_nil r2
  obtain rfl : args = #[v0, v1, v2] := by cases args; simp_all
  obtain ⟨rfl, rfl⟩ := trodVars_none hV
  have k0 := h0
  have lt0 : ∀ x ∈ p0, x.block < W.heap.size := by obtain ⟨m, hm⟩ := k0; exact DataW.trod_lt m _ _ _ hm
  have k1 := h1
  have lt1 : ∀ x ∈ p1, x.block < W.heap.size := by obtain ⟨m, hm⟩ := k1; exact DataW.trod_lt m _ _ _ hm
  have k2 := h2
  have lt2 : ∀ x ∈ p2, x.block < W.heap.size := by obtain ⟨m, hm⟩ := k2; exact DataW.trod_lt m _ _ _ hm
  obtain ⟨cs0, e0, f0⟩ := open_flat (ks := (List.replicate 32 .u8)) 6 (by kernel_rfl) (by kernel_rfl) (hval 0 23 v0 rfl rfl) h0
  subst e0
  obtain ⟨l0, g0⟩ := open_key f0
  obtain ⟨cs1, e1, f1⟩ := open_flat (ks := (List.replicate 32 .u8)) 6 (by kernel_rfl) (by kernel_rfl) (hval 1 23 v1 rfl rfl) h1
  subst e1
  obtain ⟨l1, g1⟩ := open_key f1
  obtain ⟨cs2, e2, f2⟩ := open_flat (ks := [.i64, .i64]) 6 (by kernel_rfl) (by kernel_rfl) (hval 2 24 v2 rfl rfl) h2
  subst e2
  obtain ⟨l2, g2⟩ := open_pair f2
  clear hA0 hval0
  refine (skipsOnce.walk W _ l0 g0 _ l1 g1 _ l2 g2).mono fun e W' ⟨he, hK⟩ => ?_
  subst he
  have bel := hK.below
  exact ⟨_, rfl, _, _, _, [], _, [], hW', trodAll_mk1 (shut_bool Try.underlying4 _), (trodAll_cons_mk (Below.trod laidOut (by kernel_rfl) (of_decide_eq_true (by kernel_rfl)) k0 bel lt0) (trodAll_cons_mk (Below.trod laidOut (by kernel_rfl) (of_decide_eq_true (by kernel_rfl)) k1 bel lt1) (trodAll_cons_mk (Below.trod laidOut (by kernel_rfl) (of_decide_eq_true (by kernel_rfl)) k2 bel lt2) trodAll_mk0))), rfl, bel.frame _, fun h => by cases h⟩
theorem over : Rows.skipsOnceRow.holds Try.pinned (OpenSpec.ofChange Rows.skipsOnceSpec) :=
  OpenClaim.holds_of_wide 3 Try.f3 rfl rfl rfl rfl rfl rfl rfl ⟨rfl, rfl, rfl, rfl, rfl⟩ rfl rfl rfl rfl rfl (by kernel_rfl) Try.func3 (by kernel_rfl)
    (of_decide_eq_true (by kernel_rfl)) (by unfold Func.isWrapper; first | (rw [if_pos (by decide +kernel)]; kernel_rfl) | (rw [if_neg (by decide +kernel)]; exact ⟨rfl, rfl⟩))
    (fun os started H enc _ => lifted os started H enc)
theorem proved : Rows.SkipsOnceSaid := over
end skipsOnce
/-- The row. -/
theorem skipsOnce_holds : Rows.SkipsOnceSaid := skipsOnce.proved
#print axioms skipsOnce_holds
end Go.Proofs.Ytngdppffcdhhlaa
