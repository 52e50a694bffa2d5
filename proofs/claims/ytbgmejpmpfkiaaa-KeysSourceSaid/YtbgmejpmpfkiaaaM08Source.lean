/- What any seed's source tells: the statement KeysSource. No condition. -/
import Derived.Test.YtbgmejpmpfkiaaaRows
import Derived.Test.YtbgmejpmpfkiaaaQ08h
namespace Go.Proofs.Ytbgmejpmpfkiaaa
open Go.RowKit Go.PBYtbgmejpmpfkiaaa
set_option linter.unusedVariables false
set_option linter.unusedSimpArgs false
set_option maxRecDepth 10000

set_option maxHeartbeats 2000000 in
theorem source_big (w : World) (s : List UInt8) (B : Option Addr) (c : Nat) (hs : 300 < s.length) (hb : s.length ≤ 140737488355328) (hB : SlAt w B (bys s)) (u : Value) :
    Calls Try.prog 6 #[.slice B s.length c, u] w fun e w' => e = .returned (.bool true) ∧ Kept [] w w' := by
  refine enter (n := 57) (R := fun e L => e = .returned (.bool true)) [.slice B s.length c, u] Try.func6 rfl rfl rfl (St.refl w) ?_ (fun e w' L' h H => ⟨h, H.kept⟩)
  refine VC_seq ?_
  refine VC_region ?_
  refine vl_v (q_assign rfl) rfl ?_
  refine vl_nil ?_
  refine (th_n ?_)
  refine VC_seq ?_
  refine VC_region ?_
  refine vl_v (q_callV Try.func8 rfl rfl rfl (fun w1 H1 => awake8_calls w1)) rfl ?_
  refine vl_v (q_assign rfl) rfl ?_
  refine vl_nil ?_
  refine (th_n ?_)
  refine VC_seq ?_
  refine VC_region ?_
  refine vl_v (q_move rfl) rfl ?_
  refine l_callG Try.func9 rfl rfl rfl (fun w1 H1 => snew_big s B c (by omega) hb w1 (Reads.old hB w1 H1)) rfl ?_
  intro x11
  refine vl_v (q_assign rfl) rfl ?_
  refine vl_nil ?_
  refine (th_n ?_)
  refine VC_seq ?_
  refine VC_seq ?_
  refine VC_region ?_
  refine vl_v (q_move rfl) rfl ?_
  refine vl_v (q_eqPN Try.underlying24 rfl rfl) rfl ?_
  refine vl_v (q_move rfl) rfl ?_
  refine vl_vg rfl (q_move rfl) rfl ?_
  refine vl_vg rfl (q_lenS Try.underlying22 rfl) rfl ?_
  refine vl_vg rfl (q_true (q_gtr_n (q := 300) Try.underlying3 rfl rfl) (decide_eq_true hs)) rfl ?_
  first | (refine vl_v (q_pickT rfl rfl) rfl ?_) | (refine vl_v (q_pickF rfl rfl) rfl ?_)
  refine vl_nil ?_
  refine (th_n ?_)
  refine VC_yes (rfl) ?_
  refine VC_seq ?_
  refine VC_region ?_
  refine vl_v (q_move rfl) rfl ?_
  refine vl_v (q_move rfl) rfl ?_
  refine vl_vg rfl (q_move rfl) rfl ?_
  refine vl_vg rfl (q_nePN Try.underlying24 rfl rfl) rfl ?_
  first | (refine vl_v (q_pickT rfl rfl) rfl ?_) | (refine vl_v (q_pickF rfl rfl) rfl ?_)
  refine vl_v (q_assign rfl) rfl ?_
  refine vl_nil ?_
  refine (th_n ?_)
  refine VC_ret ?_
  refine (th_r ?_)
  refine ⟨_, res1 rfl rfl, ?_⟩
  exact rfl
set_option maxHeartbeats 4000000 in
theorem source_all (w : World) (s : List UInt8) (B : Option Addr) (c : Nat) (hs : s.length ≤ 300) (hc : s.length ≤ c) (hB : SlAt w B (bys s)) (l : List Int) (A : Option Addr) (k : Nat) (hk : l.length ≤ k) (hA : SlAt w A (i64s l)) :
    Calls Try.prog 6 #[.slice B s.length c, .slice A l.length k] w fun e w' => e = .returned (.bool true) ∧ Kept [] w w' := by
  have hkl := fun i => keyB_length s i
  have hpl := fun i => pairB_length (keyB s i)
  refine enter (n := 57) (R := fun e L => e = .returned (.bool true)) [.slice B s.length c, .slice A l.length k] Try.func6 rfl rfl rfl (St.refl w) ?_ (fun e w' L' h H => ⟨h, H.kept⟩)
  refine VC_seq ?_
  refine VC_region ?_
  refine vl_v (q_assign rfl) rfl ?_
  refine vl_nil ?_
  refine (th_n ?_)
  refine VC_seq ?_
  refine VC_region ?_
  refine vl_v (q_callV Try.func8 rfl rfl rfl (fun w1 H1 => awake8_calls w1)) rfl ?_
  refine vl_v (q_assign rfl) rfl ?_
  refine vl_nil ?_
  refine (th_n ?_)
  refine VC_seq ?_
  refine VC_region ?_
  refine vl_v (q_move rfl) rfl ?_
  refine l_callG Try.func9 rfl rfl rfl (fun w1 H1 => snew_calls s B s.length c rfl (by omega) w1 (Reads.old hB w1 H1)) rfl ?_
  intro x11
  refine vl_v (q_assign rfl) rfl ?_
  refine vl_nil ?_
  refine (th_n ?_)
  refine VC_seq ?_
  refine VC_seq ?_
  refine VC_region ?_
  refine vl_v (q_move rfl) rfl ?_
  refine vl_v (q_eqPN Try.underlying24 rfl rfl) rfl ?_
  refine vl_v (q_move rfl) rfl ?_
  refine vl_vg rfl (q_move rfl) rfl ?_
  refine vl_vg rfl (q_lenS Try.underlying22 rfl) rfl ?_
  refine vl_vg rfl (q_false (q_gtr_n (q := 300) Try.underlying3 rfl rfl) (decide_eq_false (by omega))) rfl ?_
  first | (refine vl_v (q_pickT rfl rfl) rfl ?_) | (refine vl_v (q_pickF rfl rfl) rfl ?_)
  refine vl_nil ?_
  refine (th_n ?_)
  refine VC_no (rfl) ?_
  refine VC_skip ?_
  refine (th_n ?_)
  refine VC_seq ?_
  refine VC_seq ?_
  refine VC_region ?_
  refine vl_v (q_assign rfl) rfl ?_
  refine vl_nil ?_
  refine (th_n ?_)
  refine VC_block ?_
  refine VC_loop (ι := Nat) (fun i => i ≤ 12) (fun i => [(0, .slice B s.length c), (1, .slice A l.length k), (5, .bool true), (6, vP x11.1 0), (7, vN i)]) (fun i => srcS x11.1 s x11.2 i) (fun i => 12 - i) 0 (by omega) (Sub.cons (s := 0) rfl (Sub.cons (s := 1) rfl (Sub.cons (s := 5) rfl (Sub.cons (s := 6) rfl (Sub.cons (s := 7) rfl (Sub.nil _)))))) (fun w H => H) ?_
  rintro i hp
  refine VC_seq ?_
  refine VC_seq ?_
  refine VC_region ?_
  refine vl_v (q_move rfl) rfl ?_
  refine vl_v (q_move rfl) rfl ?_
  refine vl_v (q_lenS Try.underlying40 rfl) rfl ?_
  refine vl_v (q_lss_n Try.underlying3 rfl rfl) rfl ?_
  by_cases hs27 : i < l.length
  · skip
    rw [show decide (i < l.length) = true from decide_eq_true hs27]
    refine vl_v (q_move rfl) rfl ?_
    refine vl_vg rfl (q_move rfl) rfl ?_
    refine vl_vg rfl (q_lss_n (q := 12) Try.underlying3 rfl rfl) rfl ?_
    first | (refine vl_v (q_pickT rfl rfl) rfl ?_) | (refine vl_v (q_pickF rfl rfl) rfl ?_)
    refine vl_nil ?_
    refine (th_n ?_)
    refine VC_cond rfl (fun ht31 => ?_) (fun ht31 => ?_)
    · skip
      have ht31 := of_decide_eq_true ht31
      refine VC_skip ?_
      refine (th_n ?_)
      refine VC_seq ?_
      refine VC_block ?_
      refine VC_seq ?_
      refine VC_region ?_
      refine vl_v (q_move rfl) rfl ?_
      refine vl_v (q_move rfl) rfl ?_
      refine vl_v (q_callV Try.func11 rfl rfl rfl (fun w1 H1 => rskey_calls s B s.length c i rfl (by omega) hc (by omega) w1 (Reads.old hB w1 H1))) rfl ?_
      refine l_allocA zr27 rfl ?_
      intro b8
      refine l_storeA 0 rfl rfl rfl sz27 (by first | with_reducible assumption | omega | (rw [bys_length, List.length_replicate]) | (rw [bys_length]; exact keyB_length _ _)) (by first | (with_reducible first | exact bys_one _ | exact u32s_one _ | exact u64s_one _ | exact i64s_one _ | exact n64s_one _ | assumption) | exact bys_one _ | exact u32s_one _ | exact u64s_one _ | exact i64s_one _ | exact one_all rfl | (refine app_one ?_ ?_ <;> first | exact bys_one _ | exact one_all rfl | (simp; done))) (by first | with_reducible assumption | omega | (rw [bys_length, List.length_replicate]) | (rw [bys_length]; exact keyB_length _ _)) ?_
      simp only [List.set_cons_zero, List.set_cons_succ]
      refine vl_nil ?_
      refine (th_n ?_)
      refine VC_seq ?_
      refine VC_seq ?_
      refine VC_region ?_
      refine vl_v (q_move rfl) rfl ?_
      refine vl_v (q_move rfl) rfl ?_
      refine vl_v (q_idxRd (m := i) Try.underlying40 sz3 rfl rfl (by omega) (Reads.old hA) (by rw [i64s_length]; omega)) rfl ?_
      refine vl_v (q_loadRd Try.underlying3 rfl rfl (Reads.old hA) (i64s_at (by omega))) rfl ?_
      refine vl_v (q_eql_k Try.underlying3 rfl rfl) rfl ?_
      refine vl_nil ?_
      refine (th_n ?_)
      refine VC_cond rfl (fun ht41 => ?_) (fun ht41 => ?_)
      · skip
        have hu41 := ht41
        refine VC_seq ?_
        refine VC_drawQ 3 3 [[], [0], [], [2, 1], [1, 3]] [[], [0], [], [0, 1, 2], [0, 1, 2, 3]] [([], [], [], [0, 1, 2], []), ([0], [1, 2], [], [0], [0]), ([], [], [], [0], [])] [0] [0, 1, 2] rfl rfl (by kernel_rfl) ?_
        refine qp_v (fun xs gs hx => q_move rfl) ?_
        refine qp_callE (fun xs gs v _ => v = .agg (bys (pairB (keyB s i))).toArray) (fun xs gs v _ => srcS x11.1 s x11.2 (i + 1)) Try.func17 rfl rfl (args := fun xs gs => [vP x11.1 0]) (fun xs gs hx => rfl) (fun xs gs hx R w1 H1 => (spair_calls _ s x11.2 i (by omega) (by omega) w1 H1).mono fun e w' h => ⟨_, undef, h.1, (by intro h; cases h), rfl, h.2⟩) ?_
        refine qp_v (fun xs gs hx => q_slcA Try.underlying27 sz5 rfl rfl rfl rfl (.inl rfl) (by omega) (by omega) (by omega) (by omega) (by (try simp only [Nat.mul_one, Nat.zero_add, Nat.zero_mul, Nat.mul_zero, Nat.add_zero]) <;> rfl)) ?_
        refine qp_end ?_
        intro xs gs hx
        obtain ⟨f43, _⟩ := hx
        simp only [selI, ownsA, List.contains_cons, List.contains_nil, Nat.reduceBEq, Nat.reduceAdd, Bool.or_false, Bool.or_true, Bool.false_or, Bool.true_or, mask, nRow, nBlk, nRowT, tupAt_0, tupAt_1, List.append_assoc, List.nil_append, List.append_nil, List.cons_append, List.singleton_append]
        have f43 : xs 1 = .agg (bys (pairB (keyB s i))).toArray := f43
        rw [f43]
        refine VL.keep (Sub.cons (s := 0) rfl (Sub.cons (s := 1) rfl (Sub.cons (s := 5) rfl (Sub.cons (s := 6) rfl (Sub.cons (s := 7) rfl (Sub.cons (s := 31) rfl (Sub.cons (s := 8) rfl (Sub.cons (s := 41) rfl (Sub.cons (s := 43) rfl (Sub.cons (s := 44) rfl (Sub.nil _))))))))))) ?_
        refine vl_v (q_callV Try.func16 rfl rfl rfl (fun w1 H1 => rpair_calls (keyB s i) _ _ _ (keyB_length s i).symm (by rw [keyB_length]; omega) w1 (Reads.blk 0 rfl w1 H1) (by rw [keyB_length]; omega))) rfl ?_
        refine vl_v (q_as (v := .bool false) (q_neB flat64 rfl rfl (fits_bys' (pairB_length _)) (fits_bys' (pairB_length _))) (by rw [decide_eq_true rfl]; rfl)) rfl ?_
        refine vl_nil ?_
        refine (qn_n (th_n ?_))
        refine VC_no (rfl) ?_
        refine VC_skip ?_
        refine (th_n ?_)
        refine VC_seq ?_
        refine VC_region ?_
        refine vl_v (q_move rfl) rfl ?_
        refine vl_v (q_callV Try.func12 rfl rfl rfl (fun w1 H1 => many_calls _ s x11.2 (i + 1) w1 (H1.pick (ks := [1, 2, 0]) (by decide) rfl))) rfl ?_
        refine vl_v (q_move rfl) rfl ?_
        first | (refine vl_v (q_add_n (q := 1) rfl rfl (by omega)) rfl ?_) | (refine vl_v (q_add_i rfl rfl (by omega) (by omega)) rfl ?_)
        refine vl_v (q_as (v := .bool false) (q_neq_n Try.underlying3 rfl rfl) (by rw [decide_eq_true rfl]; rfl)) rfl ?_
        refine vl_nil ?_
        refine (th_n ?_)
        refine VC_no (rfl) ?_
        refine VC_skip ?_
        refine (bl_n (th_n ?_))
        refine VC_region ?_
        refine vl_v (q_move rfl) rfl ?_
        first | (refine vl_v (q_add_n (q := 1) rfl rfl (by omega)) rfl ?_) | (refine vl_v (q_add_i rfl rfl (by omega) (by omega)) rfl ?_)
        refine vl_v (q_assign rfl) rfl ?_
        refine vl_nil ?_
        refine (th_n ?_)
        refine ⟨i + 1, by omega, by omega, (Sub.cons (s := 0) rfl (Sub.cons (s := 1) rfl (Sub.cons (s := 5) rfl (Sub.cons (s := 6) rfl (Sub.cons (s := 7) rfl (Sub.nil _)))))), fun w H => St.pick H (ks := [1, 2]) (by decide) rfl⟩
      · skip
        have hu41 := ht41
        refine VC_seq ?_
        refine VC_drawQ 3 3 [[], [0], [], [1, 2]] [[], [0], [], [0, 1, 2]] [([], [], [], [0, 1, 2], []), ([0], [1, 2], [], [0], [0]), ([], [], [], [0], [])] [0] [0, 1, 2] rfl rfl (by kernel_rfl) ?_
        refine qp_v (fun xs gs hx => q_move rfl) ?_
        refine qp_callE (fun xs gs v _ => v = .agg (bys (keyB s i)).toArray) (fun xs gs v _ => srcS x11.1 s x11.2 (i + 1)) Try.func10 rfl rfl (args := fun xs gs => [vP x11.1 0]) (fun xs gs hx => rfl) (fun xs gs hx R w1 H1 => (skey_calls _ s x11.2 i (by omega) (by omega) w1 H1).mono fun e w' h => ⟨_, undef, h.1, (by intro h; cases h), rfl, h.2⟩) ?_
        refine qp_v (fun xs gs hx => q_loads 0 Try.underlying27 rfl rfl rfl sz27 (by rw [bys_length]; exact keyB_length _ _)) ?_
        refine qp_end ?_
        intro xs gs hx
        obtain ⟨f48, _⟩ := hx
        simp only [selI, ownsA, List.contains_cons, List.contains_nil, Nat.reduceBEq, Nat.reduceAdd, Bool.or_false, Bool.or_true, Bool.false_or, Bool.true_or, mask, nRow, nBlk, nRowT, tupAt_0, tupAt_1, List.append_assoc, List.nil_append, List.append_nil, List.cons_append, List.singleton_append]
        have f48 : xs 1 = .agg (bys (keyB s i)).toArray := f48
        rw [f48]
        refine VL.keep (Sub.cons (s := 0) rfl (Sub.cons (s := 1) rfl (Sub.cons (s := 5) rfl (Sub.cons (s := 6) rfl (Sub.cons (s := 7) rfl (Sub.cons (s := 31) rfl (Sub.cons (s := 8) rfl (Sub.cons (s := 41) rfl (Sub.cons (s := 48) rfl (Sub.cons (s := 49) rfl (Sub.nil _))))))))))) ?_
        refine vl_v (q_as (v := .bool false) (q_neB flat32 rfl rfl (fits_bys' (keyB_length s i)) (fits_bys' (keyB_length s i))) (by rw [decide_eq_true rfl]; rfl)) rfl ?_
        refine vl_nil ?_
        refine (qn_n (th_n ?_))
        refine VC_no (rfl) ?_
        refine VC_skip ?_
        refine (th_n ?_)
        refine VC_seq ?_
        refine VC_region ?_
        refine vl_v (q_move rfl) rfl ?_
        refine vl_v (q_callV Try.func12 rfl rfl rfl (fun w1 H1 => many_calls _ s x11.2 (i + 1) w1 (H1.pick (ks := [1, 2, 0]) (by decide) rfl))) rfl ?_
        refine vl_v (q_move rfl) rfl ?_
        first | (refine vl_v (q_add_n (q := 1) rfl rfl (by omega)) rfl ?_) | (refine vl_v (q_add_i rfl rfl (by omega) (by omega)) rfl ?_)
        refine vl_v (q_as (v := .bool false) (q_neq_n Try.underlying3 rfl rfl) (by rw [decide_eq_true rfl]; rfl)) rfl ?_
        refine vl_nil ?_
        refine (th_n ?_)
        refine VC_no (rfl) ?_
        refine VC_skip ?_
        refine (bl_n (th_n ?_))
        refine VC_region ?_
        refine vl_v (q_move rfl) rfl ?_
        first | (refine vl_v (q_add_n (q := 1) rfl rfl (by omega)) rfl ?_) | (refine vl_v (q_add_i rfl rfl (by omega) (by omega)) rfl ?_)
        refine vl_v (q_assign rfl) rfl ?_
        refine vl_nil ?_
        refine (th_n ?_)
        refine ⟨i + 1, by omega, by omega, (Sub.cons (s := 0) rfl (Sub.cons (s := 1) rfl (Sub.cons (s := 5) rfl (Sub.cons (s := 6) rfl (Sub.cons (s := 7) rfl (Sub.nil _)))))), fun w H => St.pick H (ks := [1, 2]) (by decide) rfl⟩
    · skip
      have ht31 := of_decide_eq_false ht31
      refine VC_exit ?_
      refine (th_x (th_x (bl_xs (th_n ?_))))
      refine VC_seq ?_
      refine VC_region ?_
      refine vl_v (q_move rfl) rfl ?_
      refine vl_v (q_assign rfl) rfl ?_
      refine vl_nil ?_
      refine (th_n ?_)
      refine VC_ret ?_
      refine ⟨_, res1 rfl rfl, ?_⟩
      exact rfl
  · skip
    rw [show decide (i < l.length) = false from decide_eq_false hs27]
    refine vl_v (q_move rfl) rfl ?_
    refine vl_skip rfl rfl ?_
    refine vl_skip rfl rfl ?_
    first | (refine vl_v (q_pickT rfl rfl) rfl ?_) | (refine vl_v (q_pickF rfl rfl) rfl ?_)
    refine vl_nil ?_
    refine (th_n ?_)
    refine VC_no (rfl) ?_
    refine VC_exit ?_
    refine (th_x (th_x (bl_xs (th_n ?_))))
    refine VC_seq ?_
    refine VC_region ?_
    refine vl_v (q_move rfl) rfl ?_
    refine vl_v (q_assign rfl) rfl ?_
    refine vl_nil ?_
    refine (th_n ?_)
    refine VC_ret ?_
    refine ⟨_, res1 rfl rfl, ?_⟩
    exact rfl
theorem keysSource.walk (w : World) (v0 : Value) (s : List UInt8) (h0 : BsArgB w v0 s) (v1 : Value) (l : List Int) (h1 : IsArg w v1 l) :
    Calls Try.prog 6 #[v0, v1] w fun e w' => e = .returned (.bool true) ∧ Kept [] w w' := by
  obtain ⟨⟨B, c, rfl, hc, _, hB⟩, hb⟩ := h0
  obtain ⟨A, k, rfl, hk, hA⟩ := h1
  by_cases hs : 300 < s.length
  · exact source_big w s B c hs hb hB _
  · exact source_all w s B c (by omega) hc hB l A k hk hA

namespace keysSource
open Go.ChangeShapes Go.WideShapes Go.ChangeAt Go.RowKit
theorem own : ownKnob Try.prog.godebug = none := by kernel_rfl
theorem laidOut : laidOutB Try.prog = true := by kernel_rfl
set_option maxRecDepth 100000 in
theorem lifted (os : Os) (started : os.Started) (H : Type) (enc : TypeId × Value → H) :
    ReturnsInHanded {} Try.checked os 6 .any (Rows.keysSourceSpec.pre6 enc Try.prog Try.f6 Rows.keysSourceRow.domain false) (Rows.keysSourceSpec.post enc Try.prog Try.f6 false true false false) := by
  refine returnsInHanded_of_change_sized (C := Try.checked) own started (by kernel_rfl) Try.func6
    (ChangeSpec.witness6 (enc := enc) (C := Try.checked) false ⟨#[], #[.slice none 0 0, .slice none 0 0], []⟩ 8 (by kernel_rfl) (by kernel_rfl) (by kernel_rfl) (by kernel_rfl)) ?_
  intro W base args ds gs before hval0 hW hcnd hsz _
  have hval : ∀ (j : Nat) t v, Try.f6.params[j]? = some t → args[j]? = some v → Value.okWide Try.prog W .any base t v := hval0
  have hW' := hW
  obtain ⟨p, q, hA0, hV, rfl, hfz, hnd⟩ := hW
  have hA : DataW.TrodAll enc Try.prog W 0 (fun _ => true) true Try.f6.params.toList args.toList ds p := hA0
  rw [Try.params6] at hA hval
  obtain ⟨v0, vs0, d0, ds0, p0, q0, hargs, rfl, rfl, h0, r0⟩ := trodAll_cons hA
  obtain ⟨v1, vs1, d1, ds1, p1, q1, rfl, rfl, rfl, h1, r1⟩ := trodAll_cons r0
  obtain ⟨rfl, rfl, rfl⟩ := trodAll_nil r1
  obtain rfl : args = #[v0, v1] := by cases args; simp_all
  obtain ⟨rfl, rfl⟩ := trodVars_none hV
  have k0 := h0
  have lt0 : ∀ x ∈ p0, x.block < W.heap.size := by obtain ⟨m, hm⟩ := k0; exact DataW.trod_lt m _ _ _ hm
  have k1 := h1
  have lt1 : ∀ x ∈ p1, x.block < W.heap.size := by obtain ⟨m, hm⟩ := k1; exact DataW.trod_lt m _ _ _ hm
  obtain ⟨l0, g0⟩ := open_bytesB Try.underlying22 Try.underlying5 (by kernel_rfl) (by kernel_rfl) (fun a b hd => by subst hd; exact sized_slice hsz (j := 0) (by rw [Try.params6]; rfl) rfl Try.underlying22) (hval 0 22 v0 rfl rfl) h0
  obtain ⟨l1, g1⟩ := open_i64s Try.underlying40 Try.underlying3 (by kernel_rfl) (hval 1 40 v1 rfl rfl) h1
  clear hA0 hval0
  refine (keysSource.walk W v0 l0 g0 v1 l1 g1).mono fun e W' ⟨he, hK⟩ => ?_
  subst he
  have bel := hK.below
  exact ⟨_, rfl, _, _, _, [], _, [], hW', trodAll_mk1 (shut_bool Try.underlying4 _), (trodAll_cons_mk (Below.trod laidOut (by kernel_rfl) (of_decide_eq_true (by kernel_rfl)) k0 bel lt0) (trodAll_cons_mk (Below.trod laidOut (by kernel_rfl) (of_decide_eq_true (by kernel_rfl)) k1 bel lt1) trodAll_mk0)), rfl, bel.frame _, fun h => by cases h⟩
theorem over : Rows.keysSourceRow.holds Try.pinned (OpenSpec.ofChange Rows.keysSourceSpec) :=
  OpenClaim.holds_of_wide 6 Try.f6 rfl rfl rfl rfl rfl rfl rfl ⟨rfl, rfl, rfl, rfl, rfl⟩ rfl rfl rfl rfl rfl (by kernel_rfl) Try.func6 (by kernel_rfl)
    (of_decide_eq_true (by kernel_rfl)) (by unfold Func.isWrapper; first | (rw [if_pos (by decide +kernel)]; kernel_rfl) | (rw [if_neg (by decide +kernel)]; exact ⟨rfl, rfl⟩))
    (fun os started H enc _ => lifted os started H enc)
theorem proved : Rows.KeysSourceSaid := over
end keysSource
/-- The row. -/
theorem keysSource_holds : Rows.KeysSourceSaid := keysSource.proved
#print axioms keysSource_holds
end Go.Proofs.Ytbgmejpmpfkiaaa
