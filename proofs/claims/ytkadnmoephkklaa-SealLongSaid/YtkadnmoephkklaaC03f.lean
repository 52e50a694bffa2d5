/- What the functions of package kdf do: keys for purposes; bytes that may not be. Conditions: lengths. -/
import Derived.Test.YtkadnmoephkklaaC03e
namespace Go.Proofs.Ytkadnmoephkklaa
open Go.RowKit Go.PBYtkadnmoephkklaa
set_option linter.unusedVariables false
set_option linter.unusedSimpArgs false
set_option maxRecDepth 10000

set_option maxHeartbeats 2000000 in
theorem spread_low (k p : List UInt8) (m : Int) (hm : m < 0) (w : World) :
    Calls Try.prog 18 #[.agg (bys k).toArray, .string ⟨p.toArray⟩, vI m] w fun e w' => e = .returned (.tuple #[.slice none 0 0, .int .i64 1]) ∧ Kept [] w w' := by
  refine enter (n := 29) (R := fun e L => e = .returned (.tuple #[.slice none 0 0, .int .i64 1])) [.agg (bys k).toArray, .string ⟨p.toArray⟩, vI m] Try.func18 rfl rfl rfl (St.refl w) ?_ (fun e w' L' h H => ⟨h, H.kept⟩)
  refine VC_seq ?_
  refine VC_region ?_
  refine l_boxA rfl rfl ?_
  intro b3
  refine l_box1 rfl rfl rfl ?_
  intro b4
  refine vl_v (q_assign rfl) rfl ?_
  refine vl_v (q_assign rfl) rfl ?_
  refine vl_nil ?_
  refine (th_n ?_)
  refine VC_seq ?_
  refine VC_seq ?_
  refine VC_region ?_
  refine vl_v (q_move rfl) rfl ?_
  refine vl_v (q_as (v := .bool true) (q_lss_k Try.underlying3 rfl rfl) (by simp; omega)) rfl ?_
  refine vl_v (q_move rfl) rfl ?_
  refine vl_skip rfl rfl ?_
  refine vl_skip rfl rfl ?_
  first | (refine vl_v (q_pickT rfl rfl) rfl ?_) | (refine vl_v (q_pickF rfl rfl) rfl ?_)
  refine vl_nil ?_
  refine (th_n ?_)
  refine VC_yes (rfl) ?_
  refine VC_seq ?_
  refine VC_region ?_
  refine vl_v (q_assign rfl) rfl ?_
  refine vl_v (q_assign rfl) rfl ?_
  refine vl_nil ?_
  refine (th_n ?_)
  refine VC_ret ?_
  refine (th_r ?_)
  refine ⟨_, res2 rfl rfl rfl, ?_⟩
  exact rfl
set_option maxHeartbeats 2000000 in
theorem spread_high (k p : List UInt8) (m : Int) (hm : 2000 < m) (w : World) :
    Calls Try.prog 18 #[.agg (bys k).toArray, .string ⟨p.toArray⟩, vI m] w fun e w' => e = .returned (.tuple #[.slice none 0 0, .int .i64 1]) ∧ Kept [] w w' := by
  refine enter (n := 29) (R := fun e L => e = .returned (.tuple #[.slice none 0 0, .int .i64 1])) [.agg (bys k).toArray, .string ⟨p.toArray⟩, vI m] Try.func18 rfl rfl rfl (St.refl w) ?_ (fun e w' L' h H => ⟨h, H.kept⟩)
  refine VC_seq ?_
  refine VC_region ?_
  refine l_boxA rfl rfl ?_
  intro b3
  refine l_box1 rfl rfl rfl ?_
  intro b4
  refine vl_v (q_assign rfl) rfl ?_
  refine vl_v (q_assign rfl) rfl ?_
  refine vl_nil ?_
  refine (th_n ?_)
  refine VC_seq ?_
  refine VC_seq ?_
  refine VC_region ?_
  refine vl_v (q_move rfl) rfl ?_
  refine vl_v (q_as (v := .bool false) (q_lss_k Try.underlying3 rfl rfl) (by simp; omega)) rfl ?_
  refine vl_v (q_move rfl) rfl ?_
  refine vl_vg rfl (q_move rfl) rfl ?_
  refine vl_vg rfl (q_as (v := .bool true) (q_gtr_k Try.underlying3 rfl rfl) (by simp; omega)) rfl ?_
  first | (refine vl_v (q_pickT rfl rfl) rfl ?_) | (refine vl_v (q_pickF rfl rfl) rfl ?_)
  refine vl_nil ?_
  refine (th_n ?_)
  refine VC_yes (rfl) ?_
  refine VC_seq ?_
  refine VC_region ?_
  refine vl_v (q_assign rfl) rfl ?_
  refine vl_v (q_assign rfl) rfl ?_
  refine vl_nil ?_
  refine (th_n ?_)
  refine VC_ret ?_
  refine (th_r ?_)
  refine ⟨_, res2 rfl rfl rfl, ?_⟩
  exact rfl
theorem spread_bad (k p : List UInt8) (m : Int) (hm : ¬ (0 ≤ m ∧ m ≤ 2000)) (w : World) :
    Calls Try.prog 18 #[.agg (bys k).toArray, .string ⟨p.toArray⟩, vI m] w fun e w' => e = .returned (.tuple #[.slice none 0 0, .int .i64 1]) ∧ Kept [] w w' := by
  by_cases h : m < 0
  · exact spread_low k p m h w
  · exact spread_high k p m (by omega) w

def strs (l : List (List UInt8)) : List Value := l.map fun p => .string ⟨p.toArray⟩
theorem strs_length (l : List (List UInt8)) : (strs l).length = l.length := by simp [strs]
theorem strs_at {l : List (List UInt8)} {j : Nat} (h : j < l.length) : (strs l)[j]? = some (.string ⟨(l.getD j []).toArray⟩) := by simp [strs, h]
def keysB (k : List UInt8) (ps : List (List UInt8)) : List UInt8 := ps.flatMap fun p => spread k p 32
theorem keysB_length (k : List UInt8) : ∀ ps, (keysB k ps).length = 32 * ps.length
  | [] => rfl
  | p :: r => by
    have h := keysB_length k r
    unfold keysB at h ⊢
    rw [List.flatMap_cons, List.length_append, spread_length, h, List.length_cons]; omega
theorem keysB_take {k : List UInt8} {ps : List (List UInt8)} {j : Nat} (h : j < ps.length) : keysB k (ps.take j) ++ spread k (ps.getD j []) 32 = keysB k (ps.take (j + 1)) := by
  have e : ps.getD j [] = ps[j] := by simp [h]
  rw [List.take_succ_eq_append_getElem h, e]
  unfold keysB
  rw [List.flatMap_append, List.flatMap_cons, List.flatMap_nil, List.append_nil]
theorem spread32_calls (k p : List UInt8) (hk : k.length = 32) (hp : p.length ≤ 1000) (w : World) :
    Calls Try.prog 18 #[.agg (bys k).toArray, .string ⟨p.toArray⟩, vN 32] w fun e w' => ∃ A c, e = .returned (.tuple #[.slice A 32 32, .int .i64 0]) ∧ St [] w [.row 5 1 (.slice A 32 c) 32 (bys (spread k p 32))] w' :=
  (spread_calls k p 32 hk hp (by omega) w).mono fun e w' h => by
    obtain ⟨A, c, h1, h2⟩ := h
    have e : sprOut k p ((32 + 31) / 32) = spread k p 32 := by rw [spread, List.take_of_length_le (by rw [sprOut_length]; omega)]
    rw [e, show 32 * ((32 + 31) / 32) = 32 from rfl] at h2
    exact ⟨A, c, h1, h2⟩

set_option maxHeartbeats 2000000 in
theorem keys_calls (k : List UInt8) (ps : List (List UInt8)) (A : Option Addr) (n c : Nat) (hk : k.length = 32) (hn : n = ps.length) (hl : ps.length ≤ 1000) (hps : ∀ p ∈ ps, p.length ≤ 1000) (w : World) (hA : SlAt w A (strs ps)) (hc : n ≤ c) :
    Calls Try.prog 22 #[.agg (bys k).toArray, .slice A n c] w fun e w' => ∃ v, e = .returned v ∧ St [] w [.row 23 32 v n (bys (keysB k ps))] w' := by
  subst hn
  refine enter (n := 30) (R := fun e L => ∃ v, e = .returned v ∧ ∀ w', St [] w L w' → St [] w [.row 23 32 v ps.length (bys (keysB k ps))] w') [.agg (bys k).toArray, .slice A ps.length c] Try.func22 rfl rfl rfl (St.refl w) ?_ (fun e w' L' h H => by obtain ⟨v, h1, h2⟩ := h; exact ⟨v, h1, h2 w' H⟩)
  refine VC_seq ?_
  refine VC_region ?_
  refine l_boxA rfl rfl ?_
  intro b2
  refine vl_v (q_assign rfl) rfl ?_
  refine vl_nil ?_
  refine (th_n ?_)
  refine VC_seq ?_
  refine VC_region ?_
  refine vl_v (q_assign rfl) rfl ?_
  refine vl_nil ?_
  refine (th_n ?_)
  refine VC_seq ?_
  refine VC_seq ?_
  refine VC_nilRow 23 32 ?_
  refine VC_region ?_
  refine vl_v (q_move rfl) rfl ?_
  refine vl_v (q_lenS Try.underlying31 rfl) rfl ?_
  refine vl_v (q_move rfl) rfl ?_
  refine vl_nil ?_
  refine (th_n ?_)
  refine VC_block ?_
  refine VC_loop (ι := Nat × Option Addr × Nat) (fun x => x.1 ≤ ps.length ∧ x.1 ≤ x.2.2) (fun x => [(2, vP b2 0), (5, .slice x.2.1 x.1 x.2.2), (10, .slice A ps.length c), (11, vN ps.length), (12, vN x.1)]) (fun x => [.row 23 32 (.slice x.2.1 x.1 x.2.2) x.1 (bys (keysB k (ps.take x.1))), .blk b2 23 (bys k)]) (fun x => ps.length - x.1) (0, none, 0) (⟨Nat.zero_le _, Nat.zero_le _⟩) (Sub.cons (s := 2) rfl (Sub.cons (s := 5) rfl (Sub.cons (s := 10) rfl (Sub.cons (s := 11) rfl (Sub.cons (s := 12) rfl (Sub.nil _)))))) (fun w H => H) ?_
  rintro ⟨j, A5, c5⟩ hp
  obtain ⟨hp1, hp2⟩ := hp
  have hp1 : j ≤ ps.length := hp1
  have hp2 : j ≤ c5 := hp2
  refine VC_seq ?_
  refine VC_region ?_
  refine vl_v (q_lss_n Try.underlying3 rfl rfl) rfl ?_
  refine vl_nil ?_
  refine (th_n ?_)
  refine VC_seq ?_
  refine VC_cond rfl (fun ht13 => ?_) (fun ht13 => ?_)
  · skip
    have ht13 := of_decide_eq_true ht13
    refine VC_skip ?_
    refine (th_n ?_)
    refine VC_seq ?_
    refine VC_block ?_
    refine VC_seq ?_
    refine VC_region ?_
    have ht13 : j < ps.length := ht13
    refine vl_v (q_idxRd (m := j) Try.underlying31 sz9 rfl rfl ht13 (Reads.old hA) (by rw [strs_length]; exact ht13)) rfl ?_
    refine vl_v (q_loadRd Try.underlying9 rfl rfl (Reads.old hA) (strs_at ht13)) rfl ?_
    refine vl_v (q_assign rfl) rfl ?_
    refine vl_nil ?_
    refine (th_n ?_)
    refine VC_seq ?_
    refine VC_region ?_
    have hsl := spread_length k (ps.getD j []) 32
    first | (refine vl_v (q_loads 1 Try.underlying23 rfl rfl rfl sz23 (by first | omega | with_reducible assumption | (simp only [zb, zu, zw, zi, za]; omega) | (simp only [zs, zr, zm, za, zb, zu, zw, zi, zt, zd, zc, zn, *] <;> first | done | omega) | rfl)) rfl ?_) | (refine vl_v (q_loadsAt 1 Try.underlying23 rfl rfl rfl sz23 (by rfl) (by first | omega | with_reducible assumption | (simp only [zb, zu, zw, zi, za]; omega) | (simp only [zs, zr, zm, za, zb, zu, zw, zi, zt, zd, zc, zn, *] <;> first | done | omega) | rfl)) rfl ?_)
    refine vl_v (q_move rfl) rfl ?_
    refine l_call (F := fun v L' => ∃ A8 c8, v = .tuple #[.slice A8 32 32, .int .i64 0] ∧ L' = [.row 5 1 (.slice A8 32 c8) 32 (bys (spread k (ps.getD j []) 32)), .row 23 32 (.slice A5 j c5) j (bys (keysB k (ps.take j))), .blk b2 23 (bys k)]) Try.func18 rfl rfl rfl (fun w1 H1 => (spread32_calls k (ps.getD j []) hk (hps _ (by rw [show ps.getD j [] = ps[j] by simp [ht13]]; exact List.getElem_mem _)) w1).mono fun e w' h => ?_) rfl ?_
    · obtain ⟨A8, c8, h1, h2⟩ := h
      exact ⟨_, _, h1, ⟨A8, c8, rfl, rfl⟩, ((H1.join h2).perm List.perm_append_comm).pick (ks := [0, 1, 2]) (by decide) rfl⟩
    rintro v L' ⟨A8, c8, rfl, rfl⟩
    refine vl_v (q_move rfl) rfl ?_
    refine vl_v (q_ext rfl rfl) rfl ?_
    refine vl_v (q_ext rfl rfl) rfl ?_
    refine vl_v (q_assign rfl) rfl ?_
    refine vl_v (q_assign rfl) rfl ?_
    refine vl_nil ?_
    refine (th_n ?_)
    refine VC_rowBlk (by omega) ?_
    intro bA more eA
    subst eA
    refine VC_region ?_
    refine vl_v (q_move rfl) rfl ?_
    refine vl_v (q_move rfl) rfl ?_
    refine vl_v (q_s2a Try.underlying23 rfl (by first | omega | with_reducible assumption | (simp only [zb, zu, zw, zi, za]; omega) | (simp only [zs, zr, zm, za, zb, zu, zw, zi, zt, zd, zc, zn, *] <;> first | done | omega) | rfl)) rfl ?_
    refine vl_v (q_loadsR (vs := bys (spread k (ps.getD j []) 32)) Try.underlying23 rfl (sz23.trans (congrArg some (by rw [bys_length, hsl]))) rfl (Reads.blkTake 0 0 32 rfl (by rw [List.drop_zero, List.take_append_of_le_length (by rw [bys_length]; omega), List.take_of_length_le (by rw [bys_length]; omega)]))) rfl ?_
    refine l_litG [bys (spread k (ps.getD j []) 32)] Try.underlying32 in23 (by decide) (by decide) rfl rfl rfl (by intro v hv; rw [List.mem_singleton.1 hv, bys_length]; exact hsl) rfl ?_
    intro b26
    simp only [List.flatten_cons, List.flatten_nil, List.append_nil]
    refine l_append 2 rfl rfl rfl Try.underlying32 Try.underlying32 in23 rfl (by decide) (Reads.row 0 rfl) (by first | omega | with_reducible assumption | (simp only [zb, zu, zw, zi, za]; omega) | (simp only [zs, zr, zm, za, zb, zu, zw, zi, zt, zd, zc, zn, *] <;> first | done | omega) | rfl) (by first | (with_reducible first | exact bys_one _ | exact u32s_one _ | exact u64s_one _ | exact i64s_one _ | exact n64s_one _ | assumption) | exact bys_one _ | exact u32s_one _ | exact u64s_one _ | exact i64s_one _ | exact one_all rfl | (refine app_one ?_ ?_ <;> first | exact bys_one _ | (simp; done))) (by first | omega | with_reducible assumption | (simp only [zb, zu, zw, zi, za]; omega) | (simp only [zs, zr, zm, za, zb, zu, zw, zi, zt, zd, zc, zn, *] <;> first | done | omega) | rfl) (by first | omega | with_reducible assumption | (simp only [zb, zu, zw, zi, za]; omega) | (simp only [zs, zr, zm, za, zb, zu, zw, zi, zt, zd, zc, zn, *] <;> first | done | omega) | rfl) rfl ?_
    intro A27 c27 hc27
    simp only [List.set_cons_zero, List.set_cons_succ, ← bys_append, ← u32s_append, ← u64s_append, ← i64s_append, List.nil_append, Nat.zero_add]
    rw [keysB_take ht13]
    refine vl_v (q_assign rfl) rfl ?_
    refine vl_nil ?_
    refine (bl_n (th_n ?_))
    refine VC_region ?_
    first | (refine vl_v (q_add_n (q := 1) rfl rfl (by omega)) rfl ?_) | (refine vl_v (q_add_i rfl rfl (by omega) (by omega)) rfl ?_)
    refine vl_v (q_move rfl) rfl ?_
    refine vl_nil ?_
    refine (th_n ?_)
    refine ⟨(j + 1, A27, c27), ⟨by show j + 1 ≤ ps.length; omega, hc27⟩, by show ps.length - (j + 1) < ps.length - j; omega, (Sub.cons (s := 2) rfl (Sub.cons (s := 5) rfl (Sub.cons (s := 10) rfl (Sub.cons (s := 11) rfl (Sub.cons (s := 12) rfl (Sub.nil _)))))), fun w H => St.pick H (ks := [2, 3]) (by decide) rfl⟩
  · skip
    have ht13 := of_decide_eq_false ht13
    obtain rfl : j = ps.length := by omega
    rw [List.take_length]
    refine VC_exit ?_
    refine (th_x (th_x (bl_xs (th_n ?_))))
    refine VC_seq ?_
    refine VC_region ?_
    refine vl_v (q_move rfl) rfl ?_
    refine vl_v (q_assign rfl) rfl ?_
    refine vl_nil ?_
    refine (th_n ?_)
    refine VC_ret ?_
    refine ⟨_, res1 rfl rfl, ?_⟩
    exact ⟨_, rfl, fun w' H' => St.pick H' (ks := [0]) (by decide) rfl⟩
end Go.Proofs.Ytkadnmoephkklaa
