/- Fewer bytes are a beginning of more: the statement KdfFewer. No condition. -/
import Derived.Test.YtkadnmoephkklaaRows
import Derived.Test.YtkadnmoephkklaaA03
namespace Go.Proofs.Ytkadnmoephkklaa
open Go.RowKit Go.PBYtkadnmoephkklaa
set_option linter.unusedVariables false
set_option linter.unusedSimpArgs false
set_option maxRecDepth 10000

theorem sprOut_pre (k p : List UInt8) : ∀ (d j : Nat), (sprOut k p (j + d)).take (32 * j) = sprOut k p j
  | 0, j => by rw [Nat.add_zero, List.take_of_length_le (by rw [sprOut_length]; omega)]
  | d + 1, j => by
    rw [show j + (d + 1) = (j + d) + 1 by omega, sprOut, List.take_append_of_le_length (by rw [sprOut_length]; omega), sprOut_pre k p d j]
theorem sprOut_take (k p : List UInt8) {i j n : Nat} (hi : n ≤ 32 * i) (hj : n ≤ 32 * j) : (sprOut k p i).take n = (sprOut k p j).take n := by
  rcases Nat.le_total i j with h | h
  · have e := sprOut_pre k p (j - i) i
    rw [show i + (j - i) = j by omega] at e
    rw [← e, List.take_take, Nat.min_eq_left hi]
  · have e := sprOut_pre k p (i - j) j
    rw [show j + (i - j) = i by omega] at e
    rw [← e, List.take_take, Nat.min_eq_left hj]

def PairV (v : Value) (q : Int × Int) : Prop := v = .agg #[.int .i64 q.1, .int .i64 q.2]
theorem open_pair {cs : List Value} (h : Fits cs [.i64, .i64]) : ∃ q, PairV (.agg cs.toArray) q := by
  obtain ⟨a, b, rfl, ha, hb⟩ := Fits.split (k := [.i64]) (l := [.i64]) h
  obtain ⟨x, rfl, _⟩ := ha.one
  obtain ⟨y, rfl, _⟩ := hb.one
  exact ⟨(x, y), rfl⟩
set_option maxHeartbeats 2000000 in
theorem fewer_good (k p : List UInt8) (n1 n2 : Nat) (hk : k.length = 32) (hp : p.length ≤ 300) (h1 : n1 ≤ 2000) (h2 : n2 ≤ 2000) (w : World) :
    Calls Try.prog 5 #[.agg (bys k).toArray, .string ⟨p.toArray⟩, .agg #[vN n1, vN n2]] w fun e w' => e = .returned (.bool true) ∧ Kept [] w w' := by
  obtain ⟨r1, hr1⟩ : ∃ r, r = (n1 + 31) / 32 := ⟨_, rfl⟩
  obtain ⟨r2, hr2⟩ : ∃ r, r = (n2 + 31) / 32 := ⟨_, rfl⟩
  have hs1 := sprOut_length k p r1
  have hs2 := sprOut_length k p r2
  have hpz : (⟨p.toArray⟩ : ByteArray).size = p.length := by simp [ByteArray.size]
  refine enter (n := 92) (R := fun e L => e = .returned (.bool true)) [.agg (bys k).toArray, .string ⟨p.toArray⟩, .agg #[vN n1, vN n2]] Try.func5 rfl rfl rfl (St.refl w) ?_ (fun e w' L' h H => ⟨h, H.kept⟩)
  refine VC_seq ?_
  refine VC_region ?_
  refine l_boxA rfl rfl ?_
  intro b3
  refine l_boxA rfl rfl ?_
  intro b5
  refine vl_v (q_assign rfl) rfl ?_
  refine vl_nil ?_
  refine (th_n ?_)
  refine VC_seq ?_
  refine VC_region ?_
  refine vl_v (q_callV Try.func17 rfl rfl rfl (fun w1 H1 => awake3_calls w1)) rfl ?_
  refine vl_v (q_assign rfl) rfl ?_
  refine vl_nil ?_
  refine (th_n ?_)
  refine VC_seq ?_
  refine VC_seq ?_
  refine VC_region ?_
  refine vl_v (q_move rfl) rfl ?_
  refine vl_v (q_lenStr Try.underlying9 rfl) rfl ?_
  first | (refine vl_v (q_gtr_n (q := 300) Try.underlying3 rfl rfl) rfl ?_) | (refine vl_v (q_gtr_k Try.underlying3 rfl rfl) rfl ?_)
  refine vl_nil ?_
  refine (th_n ?_)
  refine VC_cond rfl (fun ht16 => ?_) (fun ht16 => ?_)
  · skip
    have ht16 := of_decide_eq_true ht16
    exfalso; omega
  · skip
    have ht16 := of_decide_eq_false ht16
    refine VC_skip ?_
    refine (th_n ?_)
    refine VC_seq ?_
    refine VC_region ?_
    first | (refine vl_v (q_loads 1 Try.underlying23 rfl rfl rfl sz23 (by first | omega | with_reducible assumption | (simp only [bys_length, u32s_length, u64s_length, i64s_length, List.length_append]; omega) | (simp only [List.length_set, List.length_replicate, List.length_map, List.length_append, bys_length, u32s_length, u64s_length, i64s_length, List.length_take, List.length_drop, List.length_cons, List.length_nil, *] <;> first | done | omega) | rfl)) rfl ?_) | (refine vl_v (q_loadsAt 1 Try.underlying23 rfl rfl rfl sz23 (by rfl) (by first | omega | with_reducible assumption | (simp only [bys_length, u32s_length, u64s_length, i64s_length, List.length_append]; omega) | (simp only [List.length_set, List.length_replicate, List.length_map, List.length_append, bys_length, u32s_length, u64s_length, i64s_length, List.length_take, List.length_drop, List.length_cons, List.length_nil, *] <;> first | done | omega) | rfl)) rfl ?_)
    refine vl_v (q_move rfl) rfl ?_
    first | (refine vl_v (q_idxA (m := 0) Try.underlying36 sz3 rfl rfl (by omega) (r := _) (by rw [Nat.mul_one, Nat.zero_add])) rfl ?_) | (refine vl_v (q_idxA (m := 0) Try.underlying36 sz3 rfl rfl (by omega) rfl) rfl ?_)
    first | (refine vl_v (q_load 0 Try.underlying3 rfl rfl rfl (i64s_at (by first | omega | with_reducible assumption | (simp only [bys_length, u32s_length, u64s_length, i64s_length, List.length_append]; omega) | (simp only [List.length_set, List.length_replicate, List.length_map, List.length_append, bys_length, u32s_length, u64s_length, i64s_length, List.length_take, List.length_drop, List.length_cons, List.length_nil, *] <;> first | done | omega) | rfl))) rfl ?_) | (refine vl_v (q_load 0 Try.underlying3 rfl rfl rfl rfl) rfl ?_)
    refine l_call (F := fun v L' => ∃ A8 c8, v = .tuple #[.slice A8 n1 n1, .int .i64 0] ∧ L' = [.row 5 1 (.slice A8 (32 * r1) c8) (32 * r1) (bys (sprOut k p r1)), .blk b5 36 [vN n1, vN n2], .blk b3 23 (bys k)]) Try.func18 rfl rfl rfl (fun w1 H1 => (spread_calls k p n1 hk (by omega) h1 w1).mono fun e w' h => ?_) rfl ?_
    · obtain ⟨A8, c8, h1, h2⟩ := h
      rw [← hr1] at h2
      exact ⟨_, _, h1, ⟨A8, c8, rfl, rfl⟩, ((H1.join h2).perm List.perm_append_comm).pick (ks := [0, 1, 2]) (by decide) rfl⟩
    rintro v L' ⟨A8, c8, rfl, rfl⟩
    refine vl_v (q_move rfl) rfl ?_
    refine vl_v (q_ext rfl rfl) rfl ?_
    refine vl_v (q_ext rfl rfl) rfl ?_
    refine vl_v (q_assign rfl) rfl ?_
    refine vl_v (q_assign rfl) rfl ?_
    refine vl_nil ?_
    refine (th_n ?_)
    refine VC_seq ?_
    refine VC_region ?_
    first | (refine vl_v (q_loads 2 Try.underlying23 rfl rfl rfl sz23 (by first | omega | with_reducible assumption | (simp only [bys_length, u32s_length, u64s_length, i64s_length, List.length_append]; omega) | (simp only [List.length_set, List.length_replicate, List.length_map, List.length_append, bys_length, u32s_length, u64s_length, i64s_length, List.length_take, List.length_drop, List.length_cons, List.length_nil, *] <;> first | done | omega) | rfl)) rfl ?_) | (refine vl_v (q_loadsAt 2 Try.underlying23 rfl rfl rfl sz23 (by rfl) (by first | omega | with_reducible assumption | (simp only [bys_length, u32s_length, u64s_length, i64s_length, List.length_append]; omega) | (simp only [List.length_set, List.length_replicate, List.length_map, List.length_append, bys_length, u32s_length, u64s_length, i64s_length, List.length_take, List.length_drop, List.length_cons, List.length_nil, *] <;> first | done | omega) | rfl)) rfl ?_)
    refine vl_v (q_move rfl) rfl ?_
    first | (refine vl_v (q_idxA (m := 1) Try.underlying36 sz3 rfl rfl (by omega) (r := _) (by rw [Nat.mul_one, Nat.zero_add])) rfl ?_) | (refine vl_v (q_idxA (m := 1) Try.underlying36 sz3 rfl rfl (by omega) rfl) rfl ?_)
    first | (refine vl_v (q_load 1 Try.underlying3 rfl rfl rfl (i64s_at (by first | omega | with_reducible assumption | (simp only [bys_length, u32s_length, u64s_length, i64s_length, List.length_append]; omega) | (simp only [List.length_set, List.length_replicate, List.length_map, List.length_append, bys_length, u32s_length, u64s_length, i64s_length, List.length_take, List.length_drop, List.length_cons, List.length_nil, *] <;> first | done | omega) | rfl))) rfl ?_) | (refine vl_v (q_load 1 Try.underlying3 rfl rfl rfl rfl) rfl ?_)
    refine l_call (F := fun v L' => ∃ A9 c9, v = .tuple #[.slice A9 n2 n2, .int .i64 0] ∧ L' = [.row 5 1 (.slice A9 (32 * r2) c9) (32 * r2) (bys (sprOut k p r2)), .row 5 1 (.slice A8 (32 * r1) c8) (32 * r1) (bys (sprOut k p r1)), .blk b5 36 [vN n1, vN n2], .blk b3 23 (bys k)]) Try.func18 rfl rfl rfl (fun w1 H1 => (spread_calls k p n2 hk (by omega) h2 w1).mono fun e w' h => ?_) rfl ?_
    · obtain ⟨A8, c8, h1, h2⟩ := h
      rw [← hr2] at h2
      exact ⟨_, _, h1, ⟨A8, c8, rfl, rfl⟩, ((H1.join h2).perm List.perm_append_comm).pick (ks := [0, 1, 2, 3]) (by decide) rfl⟩
    rintro v L' ⟨A9, c9, rfl, rfl⟩
    refine vl_v (q_move rfl) rfl ?_
    refine vl_v (q_ext rfl rfl) rfl ?_
    refine vl_v (q_ext rfl rfl) rfl ?_
    refine vl_v (q_assign rfl) rfl ?_
    refine vl_v (q_assign rfl) rfl ?_
    refine vl_nil ?_
    refine (th_n ?_)
    refine VC_seq ?_
    refine VC_seq ?_
    refine VC_region ?_
    refine vl_v (q_move rfl) rfl ?_
    refine vl_v (q_as (v := .bool false) (q_neq_n (q := 0) Try.underlying26 rfl rfl) rfl) rfl ?_
    refine vl_v (q_move rfl) rfl ?_
    refine vl_vg rfl (q_move rfl) rfl ?_
    refine vl_vg rfl (q_as (v := .bool false) (q_neq_n (q := 0) Try.underlying26 rfl rfl) rfl) rfl ?_
    first | (refine vl_v (q_pickT rfl rfl) rfl ?_) | (refine vl_v (q_pickF rfl rfl) rfl ?_)
    refine vl_nil ?_
    refine (th_n ?_)
    refine VC_no (rfl) ?_
    refine VC_skip ?_
    refine (th_n ?_)
    refine VC_seq ?_
    refine VC_region ?_
    refine vl_v (q_move rfl) rfl ?_
    refine vl_v (q_lenS Try.underlying24 rfl) rfl ?_
    refine vl_v (q_move rfl) rfl ?_
    refine vl_v (q_lenS Try.underlying24 rfl) rfl ?_
    first | (refine vl_v (q_min rfl rfl) rfl ?_) | (refine vl_v (q_minI rfl rfl) rfl ?_)
    refine vl_v (q_assign rfl) rfl ?_
    refine vl_nil ?_
    refine (th_n ?_)
    refine VC_seq ?_
    refine VC_drawV 24 [[], [0], [1], [2, 1], [1], [4, 1], [3, 5, 1], [1, 6], [7, 1], [8], [9, 8], [8], [11, 8], [10, 12, 8], [8, 13], [14, 8], [15], [15], [16, 17, 15], [18, 15], [15], [15], [20, 21, 15], [22, 15], [19, 23, 15], [15, 24], [25, 15, 0, 1, 2, 3, 4, 5, 6, 7, 8, 9, 10, 11, 12, 13, 14, 16, 17, 18, 19, 20, 21, 22, 23, 24]] [[], [0], [0, 1], [0, 1, 2], [0, 1], [0, 1, 4], [0, 1, 2, 3, 4, 5], [0, 1, 2, 3, 4, 5, 6], [0, 1, 2, 3, 4, 5, 6, 7], [0, 1, 2, 3, 4, 5, 6, 7, 8], [0, 1, 2, 3, 4, 5, 6, 7, 8, 9], [0, 1, 2, 3, 4, 5, 6, 7, 8], [0, 1, 2, 3, 4, 5, 6, 7, 8, 11], [0, 1, 2, 3, 4, 5, 6, 7, 8, 9, 10, 11, 12], [0, 1, 2, 3, 4, 5, 6, 7, 8, 9, 10, 11, 12, 13], [0, 1, 2, 3, 4, 5, 6, 7, 8, 9, 10, 11, 12, 13, 14], [0, 1, 2, 3, 4, 5, 6, 7, 8, 9, 10, 11, 12, 13, 14, 15], [0, 1, 2, 3, 4, 5, 6, 7, 8, 9, 10, 11, 12, 13, 14, 15], [0, 1, 2, 3, 4, 5, 6, 7, 8, 9, 10, 11, 12, 13, 14, 15, 16, 17], [0, 1, 2, 3, 4, 5, 6, 7, 8, 9, 10, 11, 12, 13, 14, 15, 16, 17, 18], [0, 1, 2, 3, 4, 5, 6, 7, 8, 9, 10, 11, 12, 13, 14, 15], [0, 1, 2, 3, 4, 5, 6, 7, 8, 9, 10, 11, 12, 13, 14, 15], [0, 1, 2, 3, 4, 5, 6, 7, 8, 9, 10, 11, 12, 13, 14, 15, 20, 21], [0, 1, 2, 3, 4, 5, 6, 7, 8, 9, 10, 11, 12, 13, 14, 15, 20, 21, 22], [0, 1, 2, 3, 4, 5, 6, 7, 8, 9, 10, 11, 12, 13, 14, 15, 16, 17, 18, 19, 20, 21, 22, 23], [0, 1, 2, 3, 4, 5, 6, 7, 8, 9, 10, 11, 12, 13, 14, 15, 16, 17, 18, 19, 20, 21, 22, 23, 24], [0, 1, 2, 3, 4, 5, 6, 7, 8, 9, 10, 11, 12, 13, 14, 15, 16, 17, 18, 19, 20, 21, 22, 23, 24, 25]] rfl (by kernel_rfl) ?_
    refine qv_v (q_move rfl) ?_
    refine qv_v (q_move rfl) ?_
    refine qv_vg (rfl) (q_move rfl) ?_
    refine qv_vg (rfl) (q_lenS Try.underlying24 rfl) ?_
    first | (refine qv_vg (rfl) (q_idxA (m := 0) Try.underlying36 sz3 rfl rfl (by omega) (r := _) (by rw [Nat.mul_one, Nat.zero_add])) ?_) | (refine qv_vg (rfl) (q_idxA (m := 0) Try.underlying36 sz3 rfl rfl (by omega) rfl) ?_)
    first | (refine qv_vg (rfl) (q_load 2 Try.underlying3 rfl rfl rfl (i64s_at (by first | omega | with_reducible assumption | (simp only [bys_length, u32s_length, u64s_length, i64s_length, List.length_append]; omega) | (simp only [List.length_set, List.length_replicate, List.length_map, List.length_append, bys_length, u32s_length, u64s_length, i64s_length, List.length_take, List.length_drop, List.length_cons, List.length_nil, *] <;> first | done | omega) | rfl))) ?_) | (refine qv_vg (rfl) (q_load 2 Try.underlying3 rfl rfl rfl rfl) ?_)
    refine qv_vg (rfl) (q_true (q_eql_n Try.underlying3 rfl rfl) (decide_eq_true rfl)) ?_
    first | (refine qv_v (q_pickT rfl rfl) ?_) | (refine qv_v (q_pickF rfl rfl) ?_)
    refine qv_v (q_move rfl) ?_
    refine qv_vg (rfl) (q_move rfl) ?_
    refine qv_vg (rfl) (q_lenS Try.underlying24 rfl) ?_
    first | (refine qv_vg (rfl) (q_idxA (m := 1) Try.underlying36 sz3 rfl rfl (by omega) (r := _) (by rw [Nat.mul_one, Nat.zero_add])) ?_) | (refine qv_vg (rfl) (q_idxA (m := 1) Try.underlying36 sz3 rfl rfl (by omega) rfl) ?_)
    first | (refine qv_vg (rfl) (q_load 2 Try.underlying3 rfl rfl rfl (i64s_at (by first | omega | with_reducible assumption | (simp only [bys_length, u32s_length, u64s_length, i64s_length, List.length_append]; omega) | (simp only [List.length_set, List.length_replicate, List.length_map, List.length_append, bys_length, u32s_length, u64s_length, i64s_length, List.length_take, List.length_drop, List.length_cons, List.length_nil, *] <;> first | done | omega) | rfl))) ?_) | (refine qv_vg (rfl) (q_load 2 Try.underlying3 rfl rfl rfl rfl) ?_)
    refine qv_vg (rfl) (q_true (q_eql_n Try.underlying3 rfl rfl) (decide_eq_true rfl)) ?_
    first | (refine qv_v (q_pickT rfl rfl) ?_) | (refine qv_v (q_pickF rfl rfl) ?_)
    refine qv_v (q_move rfl) ?_
    refine qv_vg (rfl) (q_move rfl) ?_
    refine qv_vg (rfl) (q_move rfl) ?_
    refine qv_vg (rfl) (q_slcS0 (h := min n1 n2) Try.underlying24 sz5 rfl ⟨_, rfl⟩ rfl (.inl rfl) (by omega) (by omega)) ?_
    refine qv_vg (rfl) (q_str (l := (sprOut k p r1).take (min n1 n2)) Try.underlying24 Try.underlying5 Try.underlying9 rfl ((Reads.row 1 rfl).take (min n1 n2) (bys_take _ _)) (by rw [List.length_take]; omega)) ?_
    refine qv_vg (rfl) (q_move rfl) ?_
    refine qv_vg (rfl) (q_move rfl) ?_
    refine qv_vg (rfl) (q_slcS0 (h := min n1 n2) Try.underlying24 sz5 rfl ⟨_, rfl⟩ rfl (.inl rfl) (by omega) (by omega)) ?_
    refine qv_vg (rfl) (q_str (l := (sprOut k p r2).take (min n1 n2)) Try.underlying24 Try.underlying5 Try.underlying9 rfl ((Reads.row 0 rfl).take (min n1 n2) (bys_take _ _)) (by rw [List.length_take]; omega)) ?_
    refine qv_end ?_
    refine VL.keep (Sub.cons (s := 0) rfl (Sub.cons (s := 1) rfl (Sub.cons (s := 2) rfl (Sub.cons (s := 3) rfl (Sub.cons (s := 5) rfl (Sub.cons (s := 6) rfl (Sub.cons (s := 7) rfl (Sub.cons (s := 16) rfl (Sub.cons (s := 8) rfl (Sub.cons (s := 9) rfl (Sub.cons (s := 10) rfl (Sub.cons (s := 11) rfl (Sub.cons (s := 39) rfl (Sub.cons (s := 12) rfl (Sub.cons (s := 81) rfl (Sub.cons (s := 85) rfl (Sub.cons (s := 89) rfl (Sub.nil _)))))))))))))))))) ?_
    refine vl_vg rfl (q_true (q_eqStr Try.underlying9 rfl rfl) (decide_eq_true (sprOut_take k p (by omega) (by omega)))) rfl ?_
    first | (refine vl_v (q_pickT rfl rfl) rfl ?_) | (refine vl_v (q_pickF rfl rfl) rfl ?_)
    refine vl_v (q_assign rfl) rfl ?_
    refine vl_nil ?_
    refine (qn_n (th_n ?_))
    refine VC_ret ?_
    refine ⟨_, res1 rfl rfl, ?_⟩
    exact rfl

def okN (m : Int) : Prop := 0 ≤ m ∧ m ≤ 2000
theorem spread_tells (k p : List UInt8) (m : Int) (hk : k.length = 32) (hp : p.length ≤ 300) (w : World) :
    Calls Try.prog 18 #[.agg (bys k).toArray, .string ⟨p.toArray⟩, vI m] w fun e w' => ∃ x n, e = .returned (.tuple #[x, .int .i64 n]) ∧ (okN m → n = 0) ∧ (¬ okN m → n = 1) ∧ Kept [] w w' := by
  by_cases h : okN m
  · obtain ⟨n, rfl⟩ : ∃ n : Nat, m = n := ⟨m.toNat, by have := h.1; omega⟩
    exact (spread_calls k p n hk (by omega) (by have := h.2; omega) w).mono fun e w' ⟨A, c, h1, h2⟩ => ⟨_, _, h1, fun _ => rfl, fun h' => absurd h h', h2.kept⟩
  · exact (spread_bad k p m h w).mono fun e w' ⟨h1, h2⟩ => ⟨_, _, h1, fun h' => absurd h' h, fun _ => rfl, h2⟩
set_option maxHeartbeats 2000000 in
theorem fewer_bad (k p : List UInt8) (m1 m2 : Int) (hk : k.length = 32) (hp : p.length ≤ 300) (hm : ¬ (okN m1 ∧ okN m2)) (w : World) :
    Calls Try.prog 5 #[.agg (bys k).toArray, .string ⟨p.toArray⟩, .agg #[vI m1, vI m2]] w fun e w' => e = .returned (.bool true) ∧ Kept [] w w' := by
  have hpz : (⟨p.toArray⟩ : ByteArray).size = p.length := by simp [ByteArray.size]
  refine enter (n := 92) (R := fun e L => e = .returned (.bool true)) [.agg (bys k).toArray, .string ⟨p.toArray⟩, .agg #[vI m1, vI m2]] Try.func5 rfl rfl rfl (St.refl w) ?_ (fun e w' L' h H => ⟨h, H.kept⟩)
  refine VC_seq ?_
  refine VC_region ?_
  refine l_boxA rfl rfl ?_
  intro b3
  refine l_boxA rfl rfl ?_
  intro b5
  refine vl_v (q_assign rfl) rfl ?_
  refine vl_nil ?_
  refine (th_n ?_)
  refine VC_seq ?_
  refine VC_region ?_
  refine vl_v (q_callV Try.func17 rfl rfl rfl (fun w1 H1 => awake3_calls w1)) rfl ?_
  refine vl_v (q_assign rfl) rfl ?_
  refine vl_nil ?_
  refine (th_n ?_)
  refine VC_seq ?_
  refine VC_seq ?_
  refine VC_region ?_
  refine vl_v (q_move rfl) rfl ?_
  refine vl_v (q_lenStr Try.underlying9 rfl) rfl ?_
  first | (refine vl_v (q_gtr_n (q := 300) Try.underlying3 rfl rfl) rfl ?_) | (refine vl_v (q_gtr_k Try.underlying3 rfl rfl) rfl ?_)
  refine vl_nil ?_
  refine (th_n ?_)
  refine VC_cond rfl (fun ht16 => ?_) (fun ht16 => ?_)
  · skip
    have ht16 := of_decide_eq_true ht16
    exfalso; omega
  · skip
    have ht16 := of_decide_eq_false ht16
    refine VC_skip ?_
    refine (th_n ?_)
    refine VC_seq ?_
    refine VC_region ?_
    first | (refine vl_v (q_loads 1 Try.underlying23 rfl rfl rfl sz23 (by first | omega | with_reducible assumption | (simp only [bys_length, u32s_length, u64s_length, i64s_length, List.length_append]; omega) | (simp only [List.length_set, List.length_replicate, List.length_map, List.length_append, bys_length, u32s_length, u64s_length, i64s_length, List.length_take, List.length_drop, List.length_cons, List.length_nil, *] <;> first | done | omega) | rfl)) rfl ?_) | (refine vl_v (q_loadsAt 1 Try.underlying23 rfl rfl rfl sz23 (by rfl) (by first | omega | with_reducible assumption | (simp only [bys_length, u32s_length, u64s_length, i64s_length, List.length_append]; omega) | (simp only [List.length_set, List.length_replicate, List.length_map, List.length_append, bys_length, u32s_length, u64s_length, i64s_length, List.length_take, List.length_drop, List.length_cons, List.length_nil, *] <;> first | done | omega) | rfl)) rfl ?_)
    refine vl_v (q_move rfl) rfl ?_
    first | (refine vl_v (q_idxA (m := 0) Try.underlying36 sz3 rfl rfl (by omega) (r := _) (by rw [Nat.mul_one, Nat.zero_add])) rfl ?_) | (refine vl_v (q_idxA (m := 0) Try.underlying36 sz3 rfl rfl (by omega) rfl) rfl ?_)
    first | (refine vl_v (q_load 0 Try.underlying3 rfl rfl rfl (i64s_at (by first | omega | with_reducible assumption | (simp only [bys_length, u32s_length, u64s_length, i64s_length, List.length_append]; omega) | (simp only [List.length_set, List.length_replicate, List.length_map, List.length_append, bys_length, u32s_length, u64s_length, i64s_length, List.length_take, List.length_drop, List.length_cons, List.length_nil, *] <;> first | done | omega) | rfl))) rfl ?_) | (refine vl_v (q_load 0 Try.underlying3 rfl rfl rfl rfl) rfl ?_)
    refine l_call (F := fun v L' => ∃ x n, v = .tuple #[x, .int .i64 n] ∧ (okN m1 → n = 0) ∧ (¬ okN m1 → n = 1) ∧ L' = [.blk b5 36 [vI m1, vI m2], .blk b3 23 (bys k)]) Try.func18 rfl rfl rfl (fun w1 H1 => (spread_tells k p m1 hk hp w1).mono fun e w' h => ?_) rfl ?_
    · obtain ⟨x, n, h1, h2, h3, h4⟩ := h
      exact ⟨_, _, h1, ⟨x, n, rfl, h2, h3, rfl⟩, H1.keep h4⟩
    rintro v L' ⟨x1, e1, rfl, g1, g1', rfl⟩
    refine vl_v (q_move rfl) rfl ?_
    refine vl_v (q_ext rfl rfl) rfl ?_
    refine vl_v (q_ext rfl rfl) rfl ?_
    refine vl_v (q_assign rfl) rfl ?_
    refine vl_v (q_assign rfl) rfl ?_
    refine vl_nil ?_
    refine (th_n ?_)
    refine VC_seq ?_
    refine VC_region ?_
    first | (refine vl_v (q_loads 1 Try.underlying23 rfl rfl rfl sz23 (by first | omega | with_reducible assumption | (simp only [bys_length, u32s_length, u64s_length, i64s_length, List.length_append]; omega) | (simp only [List.length_set, List.length_replicate, List.length_map, List.length_append, bys_length, u32s_length, u64s_length, i64s_length, List.length_take, List.length_drop, List.length_cons, List.length_nil, *] <;> first | done | omega) | rfl)) rfl ?_) | (refine vl_v (q_loadsAt 1 Try.underlying23 rfl rfl rfl sz23 (by rfl) (by first | omega | with_reducible assumption | (simp only [bys_length, u32s_length, u64s_length, i64s_length, List.length_append]; omega) | (simp only [List.length_set, List.length_replicate, List.length_map, List.length_append, bys_length, u32s_length, u64s_length, i64s_length, List.length_take, List.length_drop, List.length_cons, List.length_nil, *] <;> first | done | omega) | rfl)) rfl ?_)
    refine vl_v (q_move rfl) rfl ?_
    first | (refine vl_v (q_idxA (m := 1) Try.underlying36 sz3 rfl rfl (by omega) (r := _) (by rw [Nat.mul_one, Nat.zero_add])) rfl ?_) | (refine vl_v (q_idxA (m := 1) Try.underlying36 sz3 rfl rfl (by omega) rfl) rfl ?_)
    first | (refine vl_v (q_load 0 Try.underlying3 rfl rfl rfl (i64s_at (by first | omega | with_reducible assumption | (simp only [bys_length, u32s_length, u64s_length, i64s_length, List.length_append]; omega) | (simp only [List.length_set, List.length_replicate, List.length_map, List.length_append, bys_length, u32s_length, u64s_length, i64s_length, List.length_take, List.length_drop, List.length_cons, List.length_nil, *] <;> first | done | omega) | rfl))) rfl ?_) | (refine vl_v (q_load 0 Try.underlying3 rfl rfl rfl rfl) rfl ?_)
    refine l_call (F := fun v L' => ∃ x n, v = .tuple #[x, .int .i64 n] ∧ (okN m2 → n = 0) ∧ (¬ okN m2 → n = 1) ∧ L' = [.blk b5 36 [vI m1, vI m2], .blk b3 23 (bys k)]) Try.func18 rfl rfl rfl (fun w1 H1 => (spread_tells k p m2 hk hp w1).mono fun e w' h => ?_) rfl ?_
    · obtain ⟨x, n, h1, h2, h3, h4⟩ := h
      exact ⟨_, _, h1, ⟨x, n, rfl, h2, h3, rfl⟩, H1.keep h4⟩
    rintro v L' ⟨x2, e2, rfl, g2, g2', rfl⟩
    refine vl_v (q_move rfl) rfl ?_
    refine vl_v (q_ext rfl rfl) rfl ?_
    refine vl_v (q_ext rfl rfl) rfl ?_
    refine vl_v (q_assign rfl) rfl ?_
    refine vl_v (q_assign rfl) rfl ?_
    refine vl_nil ?_
    refine (th_n ?_)
    refine VC_seq ?_
    refine VC_seq ?_
    refine VC_region ?_
    refine vl_v (q_move rfl) rfl ?_
    refine vl_v (q_as (v := .bool (decide (e1 ≠ 0))) (q_neq_k (q := 0) Try.underlying26 rfl rfl) (by simp)) rfl ?_
    by_cases hs35 : e1 ≠ 0
    · skip
      rw [show decide (e1 ≠ 0) = true from decide_eq_true hs35]
      refine vl_v (q_move rfl) rfl ?_
      refine vl_skip rfl rfl ?_
      refine vl_skip rfl rfl ?_
      first | (refine vl_v (q_pickT rfl rfl) rfl ?_) | (refine vl_v (q_pickF rfl rfl) rfl ?_)
      refine vl_nil ?_
      refine (th_n ?_)
      refine VC_yes (rfl) ?_
      refine VC_seq ?_
      refine VC_region ?_
      refine vl_v (q_move rfl) rfl ?_
      refine vl_v (q_move rfl) rfl ?_
      first | (refine vl_vg rfl (q_idxA (m := 0) Try.underlying36 sz3 rfl rfl (by omega) (r := _) (by rw [Nat.mul_one, Nat.zero_add])) rfl ?_) | (refine vl_vg rfl (q_idxA (m := 0) Try.underlying36 sz3 rfl rfl (by omega) rfl) rfl ?_)
      first | (refine vl_vg rfl (q_load 0 Try.underlying3 rfl rfl rfl (i64s_at (by first | omega | with_reducible assumption | (simp only [bys_length, u32s_length, u64s_length, i64s_length, List.length_append]; omega) | (simp only [List.length_set, List.length_replicate, List.length_map, List.length_append, bys_length, u32s_length, u64s_length, i64s_length, List.length_take, List.length_drop, List.length_cons, List.length_nil, *] <;> first | done | omega) | rfl))) rfl ?_) | (refine vl_vg rfl (q_load 0 Try.underlying3 rfl rfl rfl rfl) rfl ?_)
      refine vl_vg rfl (q_as (v := .bool (decide (m1 < 0))) (q_lss_k (q := 0) Try.underlying3 rfl rfl) (by simp)) rfl ?_
      by_cases hs44 : m1 < 0
      · skip
        rw [show decide (m1 < 0) = true from decide_eq_true hs44]
        refine vl_vg rfl (q_move rfl) rfl ?_
        refine vl_skip rfl rfl ?_
        refine vl_skip rfl rfl ?_
        refine vl_skip rfl rfl ?_
        first | (refine vl_vg rfl (q_pickT rfl rfl) rfl ?_) | (refine vl_vg rfl (q_pickF rfl rfl) rfl ?_)
        refine vl_vg rfl (q_move rfl) rfl ?_
        refine vl_skip rfl rfl ?_
        refine vl_skip rfl rfl ?_
        refine vl_skip rfl rfl ?_
        first | (refine vl_vg rfl (q_pickT rfl rfl) rfl ?_) | (refine vl_vg rfl (q_pickF rfl rfl) rfl ?_)
        refine vl_vg rfl (q_move rfl) rfl ?_
        refine vl_skip rfl rfl ?_
        refine vl_skip rfl rfl ?_
        refine vl_skip rfl rfl ?_
        first | (refine vl_vg rfl (q_pickT rfl rfl) rfl ?_) | (refine vl_vg rfl (q_pickF rfl rfl) rfl ?_)
        first | (refine vl_v (q_pickT rfl rfl) rfl ?_) | (refine vl_v (q_pickF rfl rfl) rfl ?_)
        refine vl_v (q_assign rfl) rfl ?_
        refine vl_nil ?_
        refine (th_n ?_)
        refine VC_ret ?_
        refine (th_r ?_)
        refine ⟨_, res1 rfl rfl, ?_⟩
        exact rfl
      · skip
        rw [show decide (m1 < 0) = false from decide_eq_false hs44]
        refine vl_vg rfl (q_move rfl) rfl ?_
        first | (refine vl_vg rfl (q_idxA (m := 1) Try.underlying36 sz3 rfl rfl (by omega) (r := _) (by rw [Nat.mul_one, Nat.zero_add])) rfl ?_) | (refine vl_vg rfl (q_idxA (m := 1) Try.underlying36 sz3 rfl rfl (by omega) rfl) rfl ?_)
        first | (refine vl_vg rfl (q_load 0 Try.underlying3 rfl rfl rfl (i64s_at (by first | omega | with_reducible assumption | (simp only [bys_length, u32s_length, u64s_length, i64s_length, List.length_append]; omega) | (simp only [List.length_set, List.length_replicate, List.length_map, List.length_append, bys_length, u32s_length, u64s_length, i64s_length, List.length_take, List.length_drop, List.length_cons, List.length_nil, *] <;> first | done | omega) | rfl))) rfl ?_) | (refine vl_vg rfl (q_load 0 Try.underlying3 rfl rfl rfl rfl) rfl ?_)
        refine vl_vg rfl (q_as (v := .bool (decide (m2 < 0))) (q_lss_k (q := 0) Try.underlying3 rfl rfl) (by simp)) rfl ?_
        by_cases hs48 : m2 < 0
        · skip
          rw [show decide (m2 < 0) = true from decide_eq_true hs48]
          first | (refine vl_vg rfl (q_pickT rfl rfl) rfl ?_) | (refine vl_vg rfl (q_pickF rfl rfl) rfl ?_)
          refine vl_vg rfl (q_move rfl) rfl ?_
          refine vl_skip rfl rfl ?_
          refine vl_skip rfl rfl ?_
          refine vl_skip rfl rfl ?_
          first | (refine vl_vg rfl (q_pickT rfl rfl) rfl ?_) | (refine vl_vg rfl (q_pickF rfl rfl) rfl ?_)
          refine vl_vg rfl (q_move rfl) rfl ?_
          refine vl_skip rfl rfl ?_
          refine vl_skip rfl rfl ?_
          refine vl_skip rfl rfl ?_
          first | (refine vl_vg rfl (q_pickT rfl rfl) rfl ?_) | (refine vl_vg rfl (q_pickF rfl rfl) rfl ?_)
          first | (refine vl_v (q_pickT rfl rfl) rfl ?_) | (refine vl_v (q_pickF rfl rfl) rfl ?_)
          refine vl_v (q_assign rfl) rfl ?_
          refine vl_nil ?_
          refine (th_n ?_)
          refine VC_ret ?_
          refine (th_r ?_)
          refine ⟨_, res1 rfl rfl, ?_⟩
          exact rfl
        · skip
          rw [show decide (m2 < 0) = false from decide_eq_false hs48]
          first | (refine vl_vg rfl (q_pickT rfl rfl) rfl ?_) | (refine vl_vg rfl (q_pickF rfl rfl) rfl ?_)
          refine vl_vg rfl (q_move rfl) rfl ?_
          first | (refine vl_vg rfl (q_idxA (m := 0) Try.underlying36 sz3 rfl rfl (by omega) (r := _) (by rw [Nat.mul_one, Nat.zero_add])) rfl ?_) | (refine vl_vg rfl (q_idxA (m := 0) Try.underlying36 sz3 rfl rfl (by omega) rfl) rfl ?_)
          first | (refine vl_vg rfl (q_load 0 Try.underlying3 rfl rfl rfl (i64s_at (by first | omega | with_reducible assumption | (simp only [bys_length, u32s_length, u64s_length, i64s_length, List.length_append]; omega) | (simp only [List.length_set, List.length_replicate, List.length_map, List.length_append, bys_length, u32s_length, u64s_length, i64s_length, List.length_take, List.length_drop, List.length_cons, List.length_nil, *] <;> first | done | omega) | rfl))) rfl ?_) | (refine vl_vg rfl (q_load 0 Try.underlying3 rfl rfl rfl rfl) rfl ?_)
          refine vl_vg rfl (q_as (v := .bool (decide (2000 < m1))) (q_gtr_k (q := 2000) Try.underlying3 rfl rfl) (by simp)) rfl ?_
          by_cases hs53 : 2000 < m1
          · skip
            rw [show decide (2000 < m1) = true from decide_eq_true hs53]
            first | (refine vl_vg rfl (q_pickT rfl rfl) rfl ?_) | (refine vl_vg rfl (q_pickF rfl rfl) rfl ?_)
            refine vl_vg rfl (q_move rfl) rfl ?_
            refine vl_skip rfl rfl ?_
            refine vl_skip rfl rfl ?_
            refine vl_skip rfl rfl ?_
            first | (refine vl_vg rfl (q_pickT rfl rfl) rfl ?_) | (refine vl_vg rfl (q_pickF rfl rfl) rfl ?_)
            first | (refine vl_v (q_pickT rfl rfl) rfl ?_) | (refine vl_v (q_pickF rfl rfl) rfl ?_)
            refine vl_v (q_assign rfl) rfl ?_
            refine vl_nil ?_
            refine (th_n ?_)
            refine VC_ret ?_
            refine (th_r ?_)
            refine ⟨_, res1 rfl rfl, ?_⟩
            exact rfl
          · skip
            rw [show decide (2000 < m1) = false from decide_eq_false hs53]
            first | (refine vl_vg rfl (q_pickT rfl rfl) rfl ?_) | (refine vl_vg rfl (q_pickF rfl rfl) rfl ?_)
            refine vl_vg rfl (q_move rfl) rfl ?_
            first | (refine vl_vg rfl (q_idxA (m := 1) Try.underlying36 sz3 rfl rfl (by omega) (r := _) (by rw [Nat.mul_one, Nat.zero_add])) rfl ?_) | (refine vl_vg rfl (q_idxA (m := 1) Try.underlying36 sz3 rfl rfl (by omega) rfl) rfl ?_)
            first | (refine vl_vg rfl (q_load 0 Try.underlying3 rfl rfl rfl (i64s_at (by first | omega | with_reducible assumption | (simp only [bys_length, u32s_length, u64s_length, i64s_length, List.length_append]; omega) | (simp only [List.length_set, List.length_replicate, List.length_map, List.length_append, bys_length, u32s_length, u64s_length, i64s_length, List.length_take, List.length_drop, List.length_cons, List.length_nil, *] <;> first | done | omega) | rfl))) rfl ?_) | (refine vl_vg rfl (q_load 0 Try.underlying3 rfl rfl rfl rfl) rfl ?_)
            refine vl_vg rfl (q_as (v := .bool true) (q_gtr_k (q := 2000) Try.underlying3 rfl rfl) (by simp; unfold okN at hm; omega)) rfl ?_
            first | (refine vl_vg rfl (q_pickT rfl rfl) rfl ?_) | (refine vl_vg rfl (q_pickF rfl rfl) rfl ?_)
            first | (refine vl_v (q_pickT rfl rfl) rfl ?_) | (refine vl_v (q_pickF rfl rfl) rfl ?_)
            refine vl_v (q_assign rfl) rfl ?_
            refine vl_nil ?_
            refine (th_n ?_)
            refine VC_ret ?_
            refine (th_r ?_)
            refine ⟨_, res1 rfl rfl, ?_⟩
            exact rfl
    · skip
      rw [show decide (e1 ≠ 0) = false from decide_eq_false hs35]
      refine vl_v (q_move rfl) rfl ?_
      refine vl_vg rfl (q_move rfl) rfl ?_
      refine vl_vg rfl (q_as (v := .bool true) (q_neq_k (q := 0) Try.underlying26 rfl rfl) (by rw [g2' (fun h => hm ⟨Classical.byContradiction fun h1 => hs35 (by rw [g1' h1]; decide), h⟩)]; rfl)) rfl ?_
      first | (refine vl_v (q_pickT rfl rfl) rfl ?_) | (refine vl_v (q_pickF rfl rfl) rfl ?_)
      refine vl_nil ?_
      refine (th_n ?_)
      refine VC_yes (rfl) ?_
      refine VC_seq ?_
      refine VC_region ?_
      refine vl_v (q_move rfl) rfl ?_
      refine vl_v (q_move rfl) rfl ?_
      first | (refine vl_vg rfl (q_idxA (m := 0) Try.underlying36 sz3 rfl rfl (by omega) (r := _) (by rw [Nat.mul_one, Nat.zero_add])) rfl ?_) | (refine vl_vg rfl (q_idxA (m := 0) Try.underlying36 sz3 rfl rfl (by omega) rfl) rfl ?_)
      first | (refine vl_vg rfl (q_load 0 Try.underlying3 rfl rfl rfl (i64s_at (by first | omega | with_reducible assumption | (simp only [bys_length, u32s_length, u64s_length, i64s_length, List.length_append]; omega) | (simp only [List.length_set, List.length_replicate, List.length_map, List.length_append, bys_length, u32s_length, u64s_length, i64s_length, List.length_take, List.length_drop, List.length_cons, List.length_nil, *] <;> first | done | omega) | rfl))) rfl ?_) | (refine vl_vg rfl (q_load 0 Try.underlying3 rfl rfl rfl rfl) rfl ?_)
      refine vl_vg rfl (q_as (v := .bool (decide (m1 < 0))) (q_lss_k (q := 0) Try.underlying3 rfl rfl) (by simp)) rfl ?_
      by_cases hs44 : m1 < 0
      · skip
        rw [show decide (m1 < 0) = true from decide_eq_true hs44]
        refine vl_vg rfl (q_move rfl) rfl ?_
        refine vl_skip rfl rfl ?_
        refine vl_skip rfl rfl ?_
        refine vl_skip rfl rfl ?_
        first | (refine vl_vg rfl (q_pickT rfl rfl) rfl ?_) | (refine vl_vg rfl (q_pickF rfl rfl) rfl ?_)
        refine vl_vg rfl (q_move rfl) rfl ?_
        refine vl_skip rfl rfl ?_
        refine vl_skip rfl rfl ?_
        refine vl_skip rfl rfl ?_
        first | (refine vl_vg rfl (q_pickT rfl rfl) rfl ?_) | (refine vl_vg rfl (q_pickF rfl rfl) rfl ?_)
        refine vl_vg rfl (q_move rfl) rfl ?_
        refine vl_skip rfl rfl ?_
        refine vl_skip rfl rfl ?_
        refine vl_skip rfl rfl ?_
        first | (refine vl_vg rfl (q_pickT rfl rfl) rfl ?_) | (refine vl_vg rfl (q_pickF rfl rfl) rfl ?_)
        first | (refine vl_v (q_pickT rfl rfl) rfl ?_) | (refine vl_v (q_pickF rfl rfl) rfl ?_)
        refine vl_v (q_assign rfl) rfl ?_
        refine vl_nil ?_
        refine (th_n ?_)
        refine VC_ret ?_
        refine (th_r ?_)
        refine ⟨_, res1 rfl rfl, ?_⟩
        exact rfl
      · skip
        rw [show decide (m1 < 0) = false from decide_eq_false hs44]
        refine vl_vg rfl (q_move rfl) rfl ?_
        first | (refine vl_vg rfl (q_idxA (m := 1) Try.underlying36 sz3 rfl rfl (by omega) (r := _) (by rw [Nat.mul_one, Nat.zero_add])) rfl ?_) | (refine vl_vg rfl (q_idxA (m := 1) Try.underlying36 sz3 rfl rfl (by omega) rfl) rfl ?_)
        first | (refine vl_vg rfl (q_load 0 Try.underlying3 rfl rfl rfl (i64s_at (by first | omega | with_reducible assumption | (simp only [bys_length, u32s_length, u64s_length, i64s_length, List.length_append]; omega) | (simp only [List.length_set, List.length_replicate, List.length_map, List.length_append, bys_length, u32s_length, u64s_length, i64s_length, List.length_take, List.length_drop, List.length_cons, List.length_nil, *] <;> first | done | omega) | rfl))) rfl ?_) | (refine vl_vg rfl (q_load 0 Try.underlying3 rfl rfl rfl rfl) rfl ?_)
        refine vl_vg rfl (q_as (v := .bool (decide (m2 < 0))) (q_lss_k (q := 0) Try.underlying3 rfl rfl) (by simp)) rfl ?_
        by_cases hs48 : m2 < 0
        · skip
          rw [show decide (m2 < 0) = true from decide_eq_true hs48]
          first | (refine vl_vg rfl (q_pickT rfl rfl) rfl ?_) | (refine vl_vg rfl (q_pickF rfl rfl) rfl ?_)
          refine vl_vg rfl (q_move rfl) rfl ?_
          refine vl_skip rfl rfl ?_
          refine vl_skip rfl rfl ?_
          refine vl_skip rfl rfl ?_
          first | (refine vl_vg rfl (q_pickT rfl rfl) rfl ?_) | (refine vl_vg rfl (q_pickF rfl rfl) rfl ?_)
          refine vl_vg rfl (q_move rfl) rfl ?_
          refine vl_skip rfl rfl ?_
          refine vl_skip rfl rfl ?_
          refine vl_skip rfl rfl ?_
          first | (refine vl_vg rfl (q_pickT rfl rfl) rfl ?_) | (refine vl_vg rfl (q_pickF rfl rfl) rfl ?_)
          first | (refine vl_v (q_pickT rfl rfl) rfl ?_) | (refine vl_v (q_pickF rfl rfl) rfl ?_)
          refine vl_v (q_assign rfl) rfl ?_
          refine vl_nil ?_
          refine (th_n ?_)
          refine VC_ret ?_
          refine (th_r ?_)
          refine ⟨_, res1 rfl rfl, ?_⟩
          exact rfl
        · skip
          rw [show decide (m2 < 0) = false from decide_eq_false hs48]
          first | (refine vl_vg rfl (q_pickT rfl rfl) rfl ?_) | (refine vl_vg rfl (q_pickF rfl rfl) rfl ?_)
          refine vl_vg rfl (q_move rfl) rfl ?_
          first | (refine vl_vg rfl (q_idxA (m := 0) Try.underlying36 sz3 rfl rfl (by omega) (r := _) (by rw [Nat.mul_one, Nat.zero_add])) rfl ?_) | (refine vl_vg rfl (q_idxA (m := 0) Try.underlying36 sz3 rfl rfl (by omega) rfl) rfl ?_)
          first | (refine vl_vg rfl (q_load 0 Try.underlying3 rfl rfl rfl (i64s_at (by first | omega | with_reducible assumption | (simp only [bys_length, u32s_length, u64s_length, i64s_length, List.length_append]; omega) | (simp only [List.length_set, List.length_replicate, List.length_map, List.length_append, bys_length, u32s_length, u64s_length, i64s_length, List.length_take, List.length_drop, List.length_cons, List.length_nil, *] <;> first | done | omega) | rfl))) rfl ?_) | (refine vl_vg rfl (q_load 0 Try.underlying3 rfl rfl rfl rfl) rfl ?_)
          refine vl_vg rfl (q_as (v := .bool (decide (2000 < m1))) (q_gtr_k (q := 2000) Try.underlying3 rfl rfl) (by simp)) rfl ?_
          by_cases hs53 : 2000 < m1
          · skip
            rw [show decide (2000 < m1) = true from decide_eq_true hs53]
            first | (refine vl_vg rfl (q_pickT rfl rfl) rfl ?_) | (refine vl_vg rfl (q_pickF rfl rfl) rfl ?_)
            refine vl_vg rfl (q_move rfl) rfl ?_
            refine vl_skip rfl rfl ?_
            refine vl_skip rfl rfl ?_
            refine vl_skip rfl rfl ?_
            first | (refine vl_vg rfl (q_pickT rfl rfl) rfl ?_) | (refine vl_vg rfl (q_pickF rfl rfl) rfl ?_)
            first | (refine vl_v (q_pickT rfl rfl) rfl ?_) | (refine vl_v (q_pickF rfl rfl) rfl ?_)
            refine vl_v (q_assign rfl) rfl ?_
            refine vl_nil ?_
            refine (th_n ?_)
            refine VC_ret ?_
            refine (th_r ?_)
            refine ⟨_, res1 rfl rfl, ?_⟩
            exact rfl
          · skip
            rw [show decide (2000 < m1) = false from decide_eq_false hs53]
            first | (refine vl_vg rfl (q_pickT rfl rfl) rfl ?_) | (refine vl_vg rfl (q_pickF rfl rfl) rfl ?_)
            refine vl_vg rfl (q_move rfl) rfl ?_
            first | (refine vl_vg rfl (q_idxA (m := 1) Try.underlying36 sz3 rfl rfl (by omega) (r := _) (by rw [Nat.mul_one, Nat.zero_add])) rfl ?_) | (refine vl_vg rfl (q_idxA (m := 1) Try.underlying36 sz3 rfl rfl (by omega) rfl) rfl ?_)
            first | (refine vl_vg rfl (q_load 0 Try.underlying3 rfl rfl rfl (i64s_at (by first | omega | with_reducible assumption | (simp only [bys_length, u32s_length, u64s_length, i64s_length, List.length_append]; omega) | (simp only [List.length_set, List.length_replicate, List.length_map, List.length_append, bys_length, u32s_length, u64s_length, i64s_length, List.length_take, List.length_drop, List.length_cons, List.length_nil, *] <;> first | done | omega) | rfl))) rfl ?_) | (refine vl_vg rfl (q_load 0 Try.underlying3 rfl rfl rfl rfl) rfl ?_)
            refine vl_vg rfl (q_as (v := .bool true) (q_gtr_k (q := 2000) Try.underlying3 rfl rfl) (by simp; unfold okN at hm; omega)) rfl ?_
            first | (refine vl_vg rfl (q_pickT rfl rfl) rfl ?_) | (refine vl_vg rfl (q_pickF rfl rfl) rfl ?_)
            first | (refine vl_v (q_pickT rfl rfl) rfl ?_) | (refine vl_v (q_pickF rfl rfl) rfl ?_)
            refine vl_v (q_assign rfl) rfl ?_
            refine vl_nil ?_
            refine (th_n ?_)
            refine VC_ret ?_
            refine (th_r ?_)
            refine ⟨_, res1 rfl rfl, ?_⟩
            exact rfl

set_option maxHeartbeats 2000000 in
theorem fewer_long (k p : List UInt8) (q : Value) (hp : ¬ p.length ≤ 300) (hq : ∃ a b, q = .agg #[a, b]) (w : World) :
    Calls Try.prog 5 #[.agg (bys k).toArray, .string ⟨p.toArray⟩, q] w fun e w' => e = .returned (.bool true) ∧ Kept [] w w' := by
  have hpz : (⟨p.toArray⟩ : ByteArray).size = p.length := by simp [ByteArray.size]
  obtain ⟨a, b, rfl⟩ := hq
  refine enter (n := 92) (R := fun e L => e = .returned (.bool true)) [.agg (bys k).toArray, .string ⟨p.toArray⟩, .agg #[a, b]] Try.func5 rfl rfl rfl (St.refl w) ?_ (fun e w' L' h H => ⟨h, H.kept⟩)
  refine VC_seq ?_
  refine VC_region ?_
  refine l_boxA rfl rfl ?_
  intro b3
  refine l_boxA rfl rfl ?_
  intro b5
  refine vl_v (q_assign rfl) rfl ?_
  refine vl_nil ?_
  refine (th_n ?_)
  refine VC_seq ?_
  refine VC_region ?_
  refine vl_v (q_callV Try.func17 rfl rfl rfl (fun w1 H1 => awake3_calls w1)) rfl ?_
  refine vl_v (q_assign rfl) rfl ?_
  refine vl_nil ?_
  refine (th_n ?_)
  refine VC_seq ?_
  refine VC_seq ?_
  refine VC_region ?_
  refine vl_v (q_move rfl) rfl ?_
  refine vl_v (q_lenStr Try.underlying9 rfl) rfl ?_
  first | (refine vl_v (q_gtr_n (q := 300) Try.underlying3 rfl rfl) rfl ?_) | (refine vl_v (q_gtr_k Try.underlying3 rfl rfl) rfl ?_)
  refine vl_nil ?_
  refine (th_n ?_)
  refine VC_cond rfl (fun ht16 => ?_) (fun ht16 => ?_)
  · skip
    have ht16 := of_decide_eq_true ht16
    refine VC_seq ?_
    refine VC_region ?_
    refine vl_v (q_move rfl) rfl ?_
    refine vl_v (q_assign rfl) rfl ?_
    refine vl_nil ?_
    refine (th_n ?_)
    refine VC_ret ?_
    refine (th_r ?_)
    refine ⟨_, res1 rfl rfl, ?_⟩
    exact rfl
  · skip
    have ht16 := of_decide_eq_false ht16
    exfalso; omega
def TextV (v : Value) (l : List UInt8) : Prop := v = .string ⟨l.toArray⟩
theorem open_text {H : Type} {enc : TypeId × Value → H} {P : Program} {w : World} {r : Reach} {b0 : Nat} {t : TypeId} {v : Value} {d : DataW H} {p : List MemPlace} (ht : P.underlying t = some .string) (hv : Value.okWide P w r b0 t v) (h : DataW.Trod enc P w 0 (fun _ => true) true t v d p) : ∃ l, TextV v l := by
  obtain ⟨s, rfl⟩ := Go.WideShapes.okWide_string ht hv
  exact ⟨s.data.toList, by unfold TextV; rfl⟩
theorem kdfFewer.walk (w : World) (v0 : Value) (k : List UInt8) (h0 : KeyV v0 k) (v1 : Value) (p : List UInt8) (h1 : TextV v1 p) (v2 : Value) (q : Int × Int) (h2 : PairV v2 q) :
    Calls Try.prog 5 #[v0, v1, v2] w fun e w' => e = .returned (.bool true) ∧ Kept [] w w' := by
  obtain ⟨rfl, hk⟩ := h0
  obtain rfl := h1
  obtain rfl := h2
  obtain ⟨m1, m2⟩ := q
  by_cases hp : p.length ≤ 300
  · by_cases hm : okN m1 ∧ okN m2
    · obtain ⟨⟨a1, a2⟩, b1, b2⟩ := hm
      obtain ⟨n1, rfl⟩ : ∃ n : Nat, m1 = n := ⟨m1.toNat, by omega⟩
      obtain ⟨n2, rfl⟩ : ∃ n : Nat, m2 = n := ⟨m2.toNat, by omega⟩
      exact fewer_good k p n1 n2 hk hp (by omega) (by omega) w
    · exact fewer_bad k p m1 m2 hk hp hm w
  · exact fewer_long k p _ hp ⟨_, _, rfl⟩ w

namespace kdfFewer
open Go.ChangeShapes Go.WideShapes Go.ChangeAt Go.RowKit
theorem own : ownKnob Try.prog.godebug = none := by kernel_rfl
theorem laidOut : laidOutB Try.prog = true := by kernel_rfl
set_option maxRecDepth 100000 in
theorem lifted (os : Os) (started : os.Started) (H : Type) (enc : TypeId × Value → H) :
    ReturnsInHanded {} Try.checked os 5 .any (Rows.kdfFewerSpec.pre6 enc Try.prog Try.f5 Rows.kdfFewerRow.domain false) (Rows.kdfFewerSpec.post enc Try.prog Try.f5 false true false false) := by
  refine returnsInHanded_of_change (C := Try.checked) own started (by kernel_rfl) Try.func5
    (ChangeSpec.witness6 (enc := enc) (C := Try.checked) false ⟨#[], #[(.agg (List.replicate 32 (Value.int .u8 0)).toArray), .string ⟨#[]⟩, (.agg #[.int .i64 0, .int .i64 0])], []⟩ 8 (by kernel_rfl) (by kernel_rfl) (by kernel_rfl) (by kernel_rfl)) ?_
  intro W base args ds gs before hval0 hW hcnd _
  have hval : ∀ (j : Nat) t v, Try.f5.params[j]? = some t → args[j]? = some v → Value.okWide Try.prog W .any base t v := hval0
  have hW' := hW
  obtain ⟨p, q, hA0, hV, rfl, hfz, hnd⟩ := hW
  have hA : DataW.TrodAll enc Try.prog W 0 (fun _ => true) true Try.f5.params.toList args.toList ds p := hA0
  rw [Try.params5] at hA hval
  obtain ⟨v0, vs0, d0, ds0, p0, q0, hargs, rfl, rfl, h0, r0⟩ := trodAll_cons hA
  obtain ⟨v1, vs1, d1, ds1, p1, q1, rfl, rfl, rfl, h1, r1⟩ := trodAll_cons r0
  obtain ⟨v2, vs2, d2, ds2, p2, q2, rfl, rfl, rfl, h2, r2⟩ := trodAll_cons r1
  obtain ⟨rfl, rfl, rfl⟩ := trodAll_nil r2
  obtain rfl : args = #[v0, v1, v2] := by cases args; simp_all
  obtain ⟨rfl, rfl⟩ := trodVars_none hV
  have k0 := h0
  have lt0 : ∀ x ∈ p0, x.block < W.heap.size := by obtain ⟨m, hm⟩ := k0; exact DataW.trod_lt m _ _ _ hm
  have k1 := h1
  have lt1 : ∀ x ∈ p1, x.block < W.heap.size := by obtain ⟨m, hm⟩ := k1; exact DataW.trod_lt m _ _ _ hm
  have k2 := h2
  have lt2 : ∀ x ∈ p2, x.block < W.heap.size := by obtain ⟨m, hm⟩ := k2; exact DataW.trod_lt m _ _ _ hm
  obtain ⟨cs0, e0, f0⟩ := open_flat (ks := (List.replicate 32 .u8)) 6 (by kernel_rfl) (by kernel_rfl) (hval 0 23 v0 rfl rfl) h0
  subst e0
  obtain ⟨l0, g0⟩ := open_key f0
  obtain ⟨l1, g1⟩ := (open_text Try.underlying9) (hval 1 9 v1 rfl rfl) h1
  obtain ⟨cs2, e2, f2⟩ := open_flat (ks := [.i64, .i64]) 6 (by kernel_rfl) (by kernel_rfl) (hval 2 36 v2 rfl rfl) h2
  subst e2
  obtain ⟨l2, g2⟩ := open_pair f2
  clear hA0 hval0
  refine (kdfFewer.walk W _ l0 g0 v1 l1 g1 _ l2 g2).mono fun e W' ⟨he, hK⟩ => ?_
  subst he
  have bel := hK.below
  exact ⟨_, rfl, _, _, _, [], _, [], hW', trodAll_mk1 (shut_bool Try.underlying4 _), (trodAll_cons_mk (Below.trod laidOut (by kernel_rfl) (of_decide_eq_true (by kernel_rfl)) k0 bel lt0) (trodAll_cons_mk (Below.trod laidOut (by kernel_rfl) (of_decide_eq_true (by kernel_rfl)) k1 bel lt1) (trodAll_cons_mk (Below.trod laidOut (by kernel_rfl) (of_decide_eq_true (by kernel_rfl)) k2 bel lt2) trodAll_mk0))), rfl, bel.frame _, fun h => by cases h⟩
theorem over : Rows.kdfFewerRow.holds Try.pinned (OpenSpec.ofChange Rows.kdfFewerSpec) :=
  OpenClaim.holds_of_wide 5 Try.f5 rfl rfl rfl rfl rfl rfl rfl ⟨rfl, rfl, rfl, rfl, rfl⟩ rfl rfl rfl rfl rfl (by kernel_rfl) Try.func5 (by kernel_rfl)
    (of_decide_eq_true (by kernel_rfl)) (by unfold Func.isWrapper; first | (rw [if_pos (by decide +kernel)]; kernel_rfl) | (rw [if_neg (by decide +kernel)]; exact ⟨rfl, rfl⟩))
    (fun os started H enc _ => lifted os started H enc)
theorem proved : Rows.KdfFewerSaid := over
end kdfFewer
/-- The row. -/
theorem kdfFewer_holds : Rows.KdfFewerSaid := kdfFewer.proved
#print axioms kdfFewer_holds
end Go.Proofs.Ytkadnmoephkklaa
