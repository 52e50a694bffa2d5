/- Any key's keys, for any purposes: the statement KdfKeys. No condition. -/
import Derived.Test.YtkadnmoephkklaaRows
import Derived.Test.YtkadnmoephkklaaA03b
import Derived.Test.YtkadnmoephkklaaC03n
import Derived.Test.YtkadnmoephkklaaVS
namespace Go.Proofs.Ytkadnmoephkklaa
open Go.RowKit Go.PBYtkadnmoephkklaa
set_option linter.unusedVariables false
set_option linter.unusedSimpArgs false
set_option maxRecDepth 10000

theorem keysAt {k : List UInt8} : ∀ {ps : List (List UInt8)} (i : Nat), i < ps.length → ((bys (keysB k ps)).drop (i * 32)).take 32 = bys (spread k (ps.getD i []) 32)
  | [], i, h => by simp at h
  | p :: r, 0, _ => by
    have hl := spread_length k p 32
    rw [Nat.zero_mul, List.drop_zero, show keysB k (p :: r) = spread k p 32 ++ keysB k r from rfl, bys_append, List.take_left' (by rw [bys_length]; exact hl)]
    rfl
  | p :: r, i + 1, h => by
    have hl := spread_length k p 32
    rw [show keysB k (p :: r) = spread k p 32 ++ keysB k r from rfl, bys_append, show (i + 1) * 32 = 32 + i * 32 by omega, ← List.drop_drop, List.drop_left' (by rw [bys_length]; exact hl), keysAt (ps := r) i (by simpa using h)]
    rfl
theorem low_snoc {ps : List (List UInt8)} {i : Nat} (h : ∀ j, j < i → (ps.getD j []).length ≤ 300) (hq : (ps.getD i []).length ≤ 300) : ∀ j, j < i + 1 → (ps.getD j []).length ≤ 300 := by
  intro j hj
  by_cases hji : j < i
  · exact h j hji
  · obtain rfl : j = i := by omega
    exact hq
set_option maxHeartbeats 2000000 in
theorem keys_law (k : List UInt8) (ps : List (List UInt8)) (A : Option Addr) (c : Nat) (hk : k.length = 32) (hn : ps.length ≤ 20) (hc : ps.length ≤ c) (w : World) (hA : SlAt w A (strs ps)) :
    Calls Try.prog 4 #[.agg (bys k).toArray, .slice A ps.length c] w fun e w' => e = .returned (.bool true) ∧ Kept [] w w' := by
  have hkl := keysB_length k ps
  refine enter (n := 53) (R := fun e L => e = .returned (.bool true)) [.agg (bys k).toArray, .slice A ps.length c] Try.func4 rfl rfl rfl (St.refl w) ?_ (fun e w' L' h H => ⟨h, H.kept⟩)
  refine VC_seq ?_
  refine VC_region ?_
  refine l_boxA rfl rfl ?_
  intro b2
  refine vl_v (q_assign rfl) rfl ?_
  refine vl_nil ?_
  refine (th_n ?_)
  refine VC_seq ?_
  refine VC_region ?_
  refine vl_v (q_callV Try.func17 rfl rfl rfl (fun w1 H1 => awake3_calls w1)) rfl ?_
  refine vl_v (q_assign rfl) rfl ?_
  refine vl_nil ?_
  refine (th_n ?_)
  refine VC_seq ?_
  refine VC_seq ?_
  refine VC_region ?_
  refine vl_v (q_move rfl) rfl ?_
  refine vl_v (q_lenS Try.underlying31 rfl) rfl ?_
  refine vl_v (q_false (q_gtr_n (q := 20) Try.underlying3 rfl rfl) (by simp; omega)) rfl ?_
  refine vl_nil ?_
  refine (th_n ?_)
  refine VC_no (rfl) ?_
  refine VC_skip ?_
  refine (th_n ?_)
  refine VC_seq ?_
  refine VC_seq ?_
  refine VC_region ?_
  refine vl_v (q_assign rfl) rfl ?_
  refine vl_nil ?_
  refine (th_n ?_)
  refine VC_block ?_
  refine VC_loop (ι := Nat) (fun i => i ≤ ps.length ∧ ∀ j, j < i → (ps.getD j []).length ≤ 300) (fun i => [(1, .slice A ps.length c), (2, vP b2 0), (5, .bool true), (6, vN i)]) (fun i => [.blk b2 23 (bys k)]) (fun i => ps.length - i) 0 (⟨Nat.zero_le _, fun j h => absurd h (Nat.not_lt_zero _)⟩) (Sub.cons (s := 1) rfl (Sub.cons (s := 2) rfl (Sub.cons (s := 5) rfl (Sub.cons (s := 6) rfl (Sub.nil _))))) (fun w H => H) ?_
  rintro i hp
  obtain ⟨hp1, hp2⟩ := hp
  refine VC_seq ?_
  refine VC_seq ?_
  refine VC_region ?_
  refine vl_v (q_move rfl) rfl ?_
  refine vl_v (q_move rfl) rfl ?_
  refine vl_v (q_lenS Try.underlying31 rfl) rfl ?_
  first | (refine vl_v (q_lss_n Try.underlying3 rfl rfl) rfl ?_) | (refine vl_v (q_lss_k Try.underlying3 rfl rfl) rfl ?_)
  refine vl_nil ?_
  refine (th_n ?_)
  refine VC_cond rfl (fun ht17 => ?_) (fun ht17 => ?_)
  · skip
    have ht17 := of_decide_eq_true ht17
    refine VC_skip ?_
    refine (th_n ?_)
    refine VC_seq ?_
    refine VC_block ?_
    refine VC_seq ?_
    have ht17 : i < ps.length := ht17
    refine VC_region ?_
    refine vl_v (q_move rfl) rfl ?_
    refine vl_v (q_move rfl) rfl ?_
    refine vl_v (q_idxRd (m := i) Try.underlying31 sz9 rfl rfl ht17 (Reads.old hA) (by rw [strs_length]; exact ht17)) rfl ?_
    refine vl_v (q_loadRd Try.underlying9 rfl rfl (Reads.old hA) (strs_at ht17)) rfl ?_
    refine vl_v (q_lenStr Try.underlying9 rfl) rfl ?_
    refine vl_v (q_as (v := .bool (decide (300 < (ps.getD i []).length))) (q_gtr_n (q := 300) (p := (ps.getD i []).length) Try.underlying3 rfl rfl) rfl) rfl ?_
    refine vl_nil ?_
    refine (th_n ?_)
    refine VC_cond rfl (fun ht25 => ?_) (fun ht25 => ?_)
    · skip
      have ht25 := of_decide_eq_true ht25
      refine VC_seq ?_
      refine VC_region ?_
      refine vl_v (q_move rfl) rfl ?_
      refine vl_v (q_assign rfl) rfl ?_
      refine vl_nil ?_
      refine (th_n ?_)
      refine VC_ret ?_
      refine (bl_r (th_r (th_r (bl_r (th_r ?_)))))
      refine ⟨_, res1 rfl rfl, ?_⟩
      exact rfl
    · skip
      have hq : (ps.getD i []).length ≤ 300 := by have := of_decide_eq_false ht25; omega
      refine VC_skip ?_
      refine (bl_n (th_n ?_))
      refine VC_region ?_
      refine vl_v (q_move rfl) rfl ?_
      first | (refine vl_v (q_add_n (q := 1) rfl rfl (by omega)) rfl ?_) | (refine vl_v (q_add_i rfl rfl (by omega) (by omega)) rfl ?_)
      refine vl_v (q_assign rfl) rfl ?_
      refine vl_nil ?_
      refine (th_n ?_)
      refine ⟨i + 1, ⟨by show i + 1 ≤ ps.length; omega, low_snoc hp2 hq⟩, by show ps.length - (i + 1) < ps.length - i; omega, (Sub.cons (s := 1) rfl (Sub.cons (s := 2) rfl (Sub.cons (s := 5) rfl (Sub.cons (s := 6) rfl (Sub.nil _))))), fun w H => H⟩
  · skip
    have ht17 := of_decide_eq_false ht17
    obtain rfl : i = ps.length := by omega
    refine VC_exit ?_
    refine (th_x (th_x (bl_xs (th_n ?_))))
    refine VC_seq ?_
    refine VC_region ?_
    first | (refine vl_v (q_loads 0 Try.underlying23 rfl rfl rfl sz23 (by first | omega | with_reducible assumption | (simp only [bys_length, u32s_length, u64s_length, i64s_length, n64s_length, List.length_append]; omega) | (simp only [List.length_set, List.length_replicate, List.length_map, List.length_append, bys_length, u32s_length, u64s_length, i64s_length, List.length_take, List.length_drop, List.length_cons, List.length_nil, *] <;> first | done | omega) | rfl)) rfl ?_) | (refine vl_v (q_loadsAt 0 Try.underlying23 rfl rfl rfl sz23 (by rfl) (by first | omega | with_reducible assumption | (simp only [bys_length, u32s_length, u64s_length, i64s_length, n64s_length, List.length_append]; omega) | (simp only [List.length_set, List.length_replicate, List.length_map, List.length_append, bys_length, u32s_length, u64s_length, i64s_length, List.length_take, List.length_drop, List.length_cons, List.length_nil, *] <;> first | done | omega) | rfl)) rfl ?_)
    refine vl_v (q_move rfl) rfl ?_
    refine l_callR Try.func22 rfl rfl rfl (fun w1 H1 => keys_calls k ps A _ c hk rfl (by omega) (fun p hp => by obtain ⟨i, hi, rfl⟩ := List.getElem_of_mem hp; have := hp2 i hi; simp [hi] at this; omega) w1 (Reads.old hA w1 H1) hc) rfl ?_
    intro A29 c29 hc29 hm29
    refine vl_v (q_assign rfl) rfl ?_
    refine vl_nil ?_
    refine (th_n ?_)
    refine VC_seq ?_
    refine VC_seq ?_
    refine VC_region ?_
    refine vl_v (q_move rfl) rfl ?_
    refine vl_v (q_lenS Try.underlying32 rfl) rfl ?_
    refine vl_v (q_move rfl) rfl ?_
    refine vl_v (q_lenS Try.underlying31 rfl) rfl ?_
    refine vl_v (q_false (q_neq_n Try.underlying3 rfl rfl) (by simp)) rfl ?_
    refine vl_nil ?_
    refine (th_n ?_)
    refine VC_no (rfl) ?_
    refine VC_skip ?_
    refine (th_n ?_)
    refine VC_seq ?_
    refine VC_seq ?_
    refine VC_region ?_
    refine vl_v (q_assign rfl) rfl ?_
    refine vl_nil ?_
    refine (th_n ?_)
    refine VC_block ?_
    refine VC_loop (ι := Nat) (fun z => z ≤ ps.length) (fun z => [(1, .slice A ps.length c), (2, vP b2 0), (5, .bool true), (7, .slice A29 ps.length c29), (8, vN z)]) (fun z => [.row 23 32 (.slice A29 ps.length c29) ps.length (bys (keysB k ps)), .blk b2 23 (bys k)]) (fun z => ps.length - z) 0 (by omega) (Sub.cons (s := 1) rfl (Sub.cons (s := 2) rfl (Sub.cons (s := 5) rfl (Sub.cons (s := 7) rfl (Sub.cons (s := 8) rfl (Sub.nil _)))))) (fun w H => H) ?_
    rintro z hp
    refine VC_seq ?_
    refine VC_seq ?_
    refine VC_region ?_
    refine vl_v (q_move rfl) rfl ?_
    refine vl_v (q_move rfl) rfl ?_
    refine vl_v (q_lenS Try.underlying31 rfl) rfl ?_
    first | (refine vl_v (q_lss_n Try.underlying3 rfl rfl) rfl ?_) | (refine vl_v (q_lss_k Try.underlying3 rfl rfl) rfl ?_)
    refine vl_nil ?_
    refine (th_n ?_)
    refine VC_cond rfl (fun ht38 => ?_) (fun ht38 => ?_)
    · skip
      have ht38 := of_decide_eq_true ht38
      refine VC_skip ?_
      refine (th_n ?_)
      refine VC_seq ?_
      refine VC_block ?_
      refine VC_seq ?_
      have ht38 : z < ps.length := ht38
      have hsl := spread_length k (ps.getD z []) 32
      refine VC_drawV 10 [[], [], [0, 1], [2], [], [], [], [5, 6], [7], [4, 8], [3, 9]] [[], [], [0, 1], [0, 1, 2], [], [], [], [5, 6], [5, 6, 7], [4, 5, 6, 7, 8], [0, 1, 2, 3, 4, 5, 6, 7, 8, 9]] rfl (by kernel_rfl) ?_
      refine qv_v (q_move rfl) ?_
      refine qv_v (q_move rfl) ?_
      refine qv_v (q_idxRdN (m := z) Try.underlying32 sz23 rfl rfl ht38 (Reads.row 0 rfl) (by rw [bys_length]; omega)) ?_
      refine qv_v (q_loadsRd (us := bys (spread k (ps.getD z []) 32)) Try.underlying23 rfl sz23 rfl (Reads.row 0 rfl) (keysAt z ht38) (by rw [bys_length]; exact hsl) (by decide)) ?_
      first | (refine qv_v (q_loads 1 Try.underlying23 rfl rfl rfl sz23 (by first | omega | with_reducible assumption | (simp only [bys_length, u32s_length, u64s_length, i64s_length, n64s_length, List.length_append]; omega) | (simp only [List.length_set, List.length_replicate, List.length_map, List.length_append, bys_length, u32s_length, u64s_length, i64s_length, List.length_take, List.length_drop, List.length_cons, List.length_nil, *] <;> first | done | omega) | rfl)) ?_) | (refine qv_v (q_loadsAt 1 Try.underlying23 rfl rfl rfl sz23 (by rfl) (by first | omega | with_reducible assumption | (simp only [bys_length, u32s_length, u64s_length, i64s_length, n64s_length, List.length_append]; omega) | (simp only [List.length_set, List.length_replicate, List.length_map, List.length_append, bys_length, u32s_length, u64s_length, i64s_length, List.length_take, List.length_drop, List.length_cons, List.length_nil, *] <;> first | done | omega) | rfl)) ?_)
      refine qv_v (q_move rfl) ?_
      refine qv_v (q_move rfl) ?_
      refine qv_v (q_idxRd (m := z) Try.underlying31 sz9 rfl rfl ht38 (Reads.old hA) (by rw [strs_length]; exact ht38)) ?_
      refine qv_v (q_loadRd Try.underlying9 rfl rfl (Reads.old hA) (strs_at ht38)) ?_
      refine qv_v (q_callV Try.func23 rfl rfl rfl (fun w1 H1 => rkey_calls k (ps.getD z []) hk (by have := hp2 z ht38; omega) w1)) ?_
      refine qv_end ?_
      refine VL.keep (Sub.cons (s := 1) rfl (Sub.cons (s := 2) rfl (Sub.cons (s := 5) rfl (Sub.cons (s := 7) rfl (Sub.cons (s := 8) rfl (Sub.cons (s := 38) rfl (Sub.cons (s := 44) rfl (Sub.cons (s := 50) rfl (Sub.nil _))))))))) ?_
      refine vl_v (q_as (v := .bool false) (q_neB flat32 rfl rfl (fits_bys' hsl) (fits_bys' hsl)) (by simp)) rfl ?_
      refine vl_nil ?_
      refine (qn_n (th_n ?_))
      refine VC_no (rfl) ?_
      refine VC_skip ?_
      refine (bl_n (th_n ?_))
      refine VC_region ?_
      refine vl_v (q_move rfl) rfl ?_
      first | (refine vl_v (q_add_n (q := 1) rfl rfl (by omega)) rfl ?_) | (refine vl_v (q_add_i rfl rfl (by omega) (by omega)) rfl ?_)
      refine vl_v (q_assign rfl) rfl ?_
      refine vl_nil ?_
      refine (th_n ?_)
      refine ⟨z + 1, by omega, by omega, (Sub.cons (s := 1) rfl (Sub.cons (s := 2) rfl (Sub.cons (s := 5) rfl (Sub.cons (s := 7) rfl (Sub.cons (s := 8) rfl (Sub.nil _)))))), fun w H => H⟩
    · skip
      have ht38 := of_decide_eq_false ht38
      refine VC_exit ?_
      refine (th_x (th_x (bl_xs (th_n ?_))))
      refine VC_seq ?_
      refine VC_region ?_
      refine vl_v (q_move rfl) rfl ?_
      refine vl_v (q_assign rfl) rfl ?_
      refine vl_nil ?_
      refine (th_n ?_)
      refine VC_ret ?_
      refine ⟨_, res1 rfl rfl, ?_⟩
      exact rfl
set_option maxHeartbeats 2000000 in
theorem keys_many (k : List UInt8) (ps : List (List UInt8)) (A : Option Addr) (c : Nat) (hn : ¬ ps.length ≤ 20) (w : World) :
    Calls Try.prog 4 #[.agg (bys k).toArray, .slice A ps.length c] w fun e w' => e = .returned (.bool true) ∧ Kept [] w w' := by
  refine enter (n := 53) (R := fun e L => e = .returned (.bool true)) [.agg (bys k).toArray, .slice A ps.length c] Try.func4 rfl rfl rfl (St.refl w) ?_ (fun e w' L' h H => ⟨h, H.kept⟩)
  refine VC_seq ?_
  refine VC_region ?_
  refine l_boxA rfl rfl ?_
  intro b2
  refine vl_v (q_assign rfl) rfl ?_
  refine vl_nil ?_
  refine (th_n ?_)
  refine VC_seq ?_
  refine VC_region ?_
  refine vl_v (q_callV Try.func17 rfl rfl rfl (fun w1 H1 => awake3_calls w1)) rfl ?_
  refine vl_v (q_assign rfl) rfl ?_
  refine vl_nil ?_
  refine (th_n ?_)
  refine VC_seq ?_
  refine VC_seq ?_
  refine VC_region ?_
  refine vl_v (q_move rfl) rfl ?_
  refine vl_v (q_lenS Try.underlying31 rfl) rfl ?_
  refine vl_v (q_true (q_gtr_n (q := 20) Try.underlying3 rfl rfl) (decide_eq_true (by omega))) rfl ?_
  refine vl_nil ?_
  refine (th_n ?_)
  refine VC_yes (rfl) ?_
  refine VC_seq ?_
  refine VC_region ?_
  refine vl_v (q_move rfl) rfl ?_
  refine vl_v (q_assign rfl) rfl ?_
  refine vl_nil ?_
  refine (th_n ?_)
  refine VC_ret ?_
  refine (th_r ?_)
  refine ⟨_, res1 rfl rfl, ?_⟩
  exact rfl
theorem kdfKeys.walk (w : World) (v0 : Value) (k : List UInt8) (h0 : KeyV v0 k) (v1 : Value) (ps : List (List UInt8)) (h1 : TxArg w v1 ps) :
    Calls Try.prog 4 #[v0, v1] w fun e w' => e = .returned (.bool true) ∧ Kept [] w w' := by
  obtain ⟨rfl, hk⟩ := h0
  obtain ⟨A, c, rfl, hc, hA⟩ := h1
  by_cases hn : ps.length ≤ 20
  · exact keys_law k ps A c hk hn hc w hA
  · exact keys_many k ps A c hn w

namespace kdfKeys
open Go.ChangeShapes Go.WideShapes Go.ChangeAt Go.RowKit
theorem own : ownKnob Try.prog.godebug = none := by kernel_rfl
theorem laidOut : laidOutB Try.prog = true := by kernel_rfl
set_option maxRecDepth 100000 in
theorem lifted (os : Os) (started : os.Started) (H : Type) (enc : TypeId × Value → H) :
    ReturnsInHanded {} Try.checked os 4 .any (Rows.kdfKeysSpec.pre6 enc Try.prog Try.f4 Rows.kdfKeysRow.domain false) (Rows.kdfKeysSpec.post enc Try.prog Try.f4 false true false false) := by
  refine returnsInHanded_of_change (C := Try.checked) own started (by kernel_rfl) Try.func4
    (ChangeSpec.witness6 (enc := enc) (C := Try.checked) false ⟨#[], #[(.agg (List.replicate 32 (Value.int .u8 0)).toArray), .slice none 0 0], []⟩ 8 (by kernel_rfl) (by kernel_rfl) (by kernel_rfl) (by kernel_rfl)) ?_
  intro W base args ds gs before hval0 hW hcnd _
  have hval : ∀ (j : Nat) t v, Try.f4.params[j]? = some t → args[j]? = some v → Value.okWide Try.prog W .any base t v := hval0
  have hW' := hW
  obtain ⟨p, q, hA0, hV, rfl, hfz, hnd⟩ := hW
  have hA : DataW.TrodAll enc Try.prog W 0 (fun _ => true) true Try.f4.params.toList args.toList ds p := hA0
  rw [Try.params4] at hA hval
  obtain ⟨v0, vs0, d0, ds0, p0, q0, hargs, rfl, rfl, h0, r0⟩ := trodAll_cons hA
  obtain ⟨v1, vs1, d1, ds1, p1, q1, rfl, rfl, rfl, h1, r1⟩ := trodAll_cons r0
  obtain ⟨rfl, rfl, rfl⟩ := trodAll_nil r1
  obtain rfl : args = #[v0, v1] := by cases args; simp_all
  obtain ⟨rfl, rfl⟩ := trodVars_none hV
  have k0 := h0
  have lt0 : ∀ x ∈ p0, x.block < W.heap.size := by obtain ⟨m, hm⟩ := k0; exact DataW.trod_lt m _ _ _ hm
  have k1 := h1
  have lt1 : ∀ x ∈ p1, x.block < W.heap.size := by obtain ⟨m, hm⟩ := k1; exact DataW.trod_lt m _ _ _ hm
  obtain ⟨cs0, e0, f0⟩ := open_flat (ks := (List.replicate 32 .u8)) 6 (by kernel_rfl) (by kernel_rfl) (hval 0 23 v0 rfl rfl) h0
  subst e0
  obtain ⟨l0, g0⟩ := open_key f0
  obtain ⟨l1, g1⟩ := (open_texts Try.underlying31 Try.underlying9 (by kernel_rfl)) (hval 1 31 v1 rfl rfl) h1
  clear hA0 hval0
  refine (kdfKeys.walk W _ l0 g0 v1 l1 g1).mono fun e W' ⟨he, hK⟩ => ?_
  subst he
  have bel := hK.below
  exact ⟨_, rfl, _, _, _, [], _, [], hW', trodAll_mk1 (shut_bool Try.underlying4 _), (trodAll_cons_mk (Below.trod laidOut (by kernel_rfl) (of_decide_eq_true (by kernel_rfl)) k0 bel lt0) (trodAll_cons_mk (Below.trod laidOut (by kernel_rfl) (of_decide_eq_true (by kernel_rfl)) k1 bel lt1) trodAll_mk0)), rfl, bel.frame _, fun h => by cases h⟩
theorem over : Rows.kdfKeysRow.holds Try.pinned (OpenSpec.ofChange Rows.kdfKeysSpec) :=
  OpenClaim.holds_of_wide 4 Try.f4 rfl rfl rfl rfl rfl rfl rfl ⟨rfl, rfl, rfl, rfl, rfl⟩ rfl rfl rfl rfl rfl (by kernel_rfl) Try.func4 (by kernel_rfl)
    (of_decide_eq_true (by kernel_rfl)) (by unfold Func.isWrapper; first | (rw [if_pos (by decide +kernel)]; kernel_rfl) | (rw [if_neg (by decide +kernel)]; exact ⟨rfl, rfl⟩))
    (fun os started H enc _ => lifted os started H enc)
theorem proved : Rows.KdfKeysSaid := over
end kdfKeys
/-- The row. -/
theorem kdfKeys_holds : Rows.KdfKeysSaid := kdfKeys.proved
#print axioms kdfKeys_holds
end Go.Proofs.Ytkadnmoephkklaa
