/- Words and laws that the proofs of this seat share, part 8 of 8. No condition. -/
import Derived.Test.YtabmfndiepmcgaaQ09g
section
namespace Go.PBYtabmfndiepmcgaa
open Go Go.RowKit Go.ChangeShapes Go.WideShapes Go.ChangeAt Go.Deep
set_option linter.unusedSimpArgs false
set_option linter.unusedVariables false
theorem flatten_length {sz : Nat} : ∀ (vs : List (List Value)), (∀ u ∈ vs, u.length = sz) → vs.flatten.length = vs.length * sz
  | [], _ => by simp
  | u :: vs, h => by
    rw [List.flatten_cons, List.length_append, h u (by simp), flatten_length vs (fun x hx => h x (by simp [hx])), List.length_cons, Nat.succ_mul]
    omega
theorem flatten_part {sz : Nat} : ∀ (vs : List (List Value)) (i : Nat), (∀ u ∈ vs, u.length = sz) → i < vs.length → (vs.flatten.drop (i * sz)).take sz = vs.getD i []
  | [], i, _, h => by simp at h
  | u :: vs, 0, h, _ => by
    have := h u (by simp)
    rw [Nat.zero_mul, List.drop_zero, List.flatten_cons, List.take_left' this]
    rfl
  | u :: vs, i + 1, h, hi => by
    have he := h u (by simp)
    rw [List.flatten_cons, show (i + 1) * sz = sz + i * sz by rw [Nat.succ_mul]; omega, ← List.drop_drop, List.drop_left' he, flatten_part vs i (fun e' h' => h e' (by simp [h'])) (by simpa using hi)]
    simp
end Go.PBYtabmfndiepmcgaa
end
section
namespace Go.Proofs.Ytabmfndiepmcgaa
open Go.RowKit Go.PBYtabmfndiepmcgaa
set_option linter.unusedVariables false
set_option linter.unusedSimpArgs false
set_option maxRecDepth 10000
theorem flat96 : Flat Try.prog 58 (List.replicate 96 .u8) :=
  flat_of (m := 6) laid08 (by omega) (of_decide_eq_true (by kernel_rfl)) (by kernel_rfl) (by kernel_rfl) (by kernel_rfl) (by kernel_rfl) (by kernel_rfl) (by kernel_rfl)
/-- what was bad, with one more in common -/
def badN (r : List UInt8) (bad : Nat) : Nat := if comE r = 0 then bad else comE r
theorem badN_same {k : List UInt8} {bad : Nat} (h : comE k = 0 ∨ bad = comE k) : badN k bad = bad := by
  unfold badN
  rcases h with h | h
  · exact if_pos h
  · split
    · rfl
    · exact h.symm
/-- what is gathered, but for the rows' bytes -/
abbrev gCore (bl br be bk : Nat) (lst : List UInt8) (y : Option Addr × Nat) (bad : Nat) (k : List UInt8) (n : Nat) (cs : List Value) : List Res :=
  [.blk bl 58 (bys lst), .blk br 51 [.slice y.1 n y.2], .blk be 29 [vN bad], .blk bk 23 (bys k), .row 45 1 (.slice y.1 n y.2) n cs]
abbrev rowR (r : List UInt8) (x : Option Addr × Nat) : Res := .row 5 1 (.slice x.1 32 x.2) 32 (bys r)
set_option maxHeartbeats 2000000 in
theorem have_core {S : List Nat} {w0 : World} (bl br be bk : Nat) (o q lst k r : List UInt8) (y : Option Addr × Nat) (bad n : Nat) (cs : List Value) (ho : o.length = 64) (hq : q.length = 32) (hl : lst.length = 96) (hk : k.length = 32) (hr : comB (o.take 32) q = r)
    (hinv : o ++ q = lst → 0 < n → k = r ∧ (comE r = 0 ∨ bad = comE r)) (hn : n ≤ 100) (w : World) (H : St S w0 (gCore bl br be bk lst y bad k n cs) w) :
    Calls Try.prog 23 #[.agg (bys o).toArray, .agg (bys q).toArray, vP bl 0, vP br 0, vP be 0, vP bk 0] w fun e w' => e = .returned (.tuple #[]) ∧ ∃ (y' x : Option Addr × Nat),
      St S w0 (gCore bl br be bk (o ++ q) y' (badN r bad) r (n + 1) (cs ++ [.slice x.1 32 x.2]) ++ [rowR r x]) w' := by
  have e0 : o = o.take 32 ++ o.drop 32 := (List.take_append_drop 32 o).symm
  have ha : (o.take 32).length = 32 := by simp; omega
  have hb : (o.drop 32).length = 32 := by simp; omega
  have hcc := fun w => com_calls (o.take 32) (o.drop 32) q ha hb hq w
  rw [← e0, hr] at hcc
  have lr : r.length = 32 := by rw [← hr]; exact comB_length _ _
  have l96 : (o ++ q).length = 96 := by rw [List.length_append]; omega
  obtain ⟨p, hp⟩ : ∃ p, o ++ q = p := ⟨_, rfl⟩
  have lbo : (bys o).length = 64 := by rw [bys_length]; exact ho
  have lbq : (bys q).length = 32 := by rw [bys_length]; exact hq
  have lbr : (bys r).length = 32 := by rw [bys_length]; exact lr
  have lbk : (bys k).length = 32 := by rw [bys_length]; exact hk
  have lbl : (bys lst).length = 96 := by rw [bys_length]; exact hl
  have lbp : (bys p).length = 96 := by rw [bys_length, ← hp]; exact l96
  have lz : (bys (List.replicate 32 0)).length = 32 := by rw [bys_length, List.length_replicate]
  have lz3 : (bys (List.replicate 32 0) ++ bys (List.replicate 32 0) ++ bys (List.replicate 32 0)).length = 96 := by rw [List.length_append, List.length_append, lz]
  rw [hp] at hinv l96 ⊢
  refine enter (n := 39) (R := fun e M => e = .returned (.tuple #[]) ∧ ∀ w', St S w0 M w' → ∃ (y' x : Option Addr × Nat), St S w0 (gCore bl br be bk p y' (badN r bad) r (n + 1) (cs ++ [.slice x.1 32 x.2]) ++ [rowR r x]) w') [.agg (bys o).toArray, .agg (bys q).toArray, vP bl 0, vP br 0, vP be 0, vP bk 0] Try.func23 rfl rfl rfl H ?_ (fun e w' L' h H => ⟨h.1, h.2 w' H⟩)
  refine VC_seq ?_
  refine VC_region ?_
  refine l_boxA rfl rfl ?_
  intro b6
  refine l_boxA rfl rfl ?_
  intro b7
  refine vl_nil ?_
  refine (th_n ?_)
  refine VC_seq ?_
  refine VC_seq ?_
  refine VC_region ?_
  refine vl_v (q_loads 1 Try.underlying25 rfl rfl rfl sz25 (by with_reducible assumption)) rfl ?_
  refine vl_v (q_loads 0 Try.underlying23 rfl rfl rfl sz23 (by with_reducible assumption)) rfl ?_
  refine vl_v (q_buildS (tot := 96) (sizes := [64, 32]) (c' := bys p) (by kernel_rfl) rfl rfl rfl rfl (by simp only [List.map_cons, List.map_nil, cellsL, Value.cells, lbo, lbq]) (by simp only [flatV, cellsL, Value.cells, List.map_cons, List.map_nil, List.flatten_cons, List.flatten_nil, List.append_nil, ← hp, bys_append])) rfl ?_
  refine l_allocA zr58 rfl ?_
  intro b8
  refine l_storeA 0 rfl rfl rfl sz58 (by with_reducible assumption) (by with_reducible first | exact bys_one _ | exact u32s_one _ | exact u64s_one _ | exact i64s_one _ | exact n64s_one _ | assumption) (by with_reducible assumption) ?_
  simp only [List.set_cons_zero, List.set_cons_succ]
  refine vl_nil ?_
  refine (th_n ?_)
  refine VC_seq ?_
  refine VC_region ?_
  refine vl_v (q_loads 0 Try.underlying58 rfl rfl rfl sz58 (by with_reducible assumption)) rfl ?_
  refine vl_v (q_loads 3 Try.underlying58 rfl rfl rfl sz58 (by with_reducible assumption)) rfl ?_
  refine vl_v (q_as (v := .bool (decide (¬ (p = lst)))) (q_neB flat96 rfl rfl (fits_bys' l96) (fits_bys' hl)) (by simp)) rfl ?_
  by_cases hs16 : ¬ (p = lst)
  · skip
    rw [show decide (¬ (p = lst)) = true from decide_eq_true hs16]
    refine vl_v (q_move rfl) rfl ?_
    refine vl_skip rfl rfl ?_
    refine vl_skip rfl rfl ?_
    refine vl_skip rfl rfl ?_
    refine vl_v (q_pickT rfl rfl) rfl ?_
    refine vl_nil ?_
    refine (th_n ?_)
    refine VC_yes (rfl) ?_
    refine VC_seq ?_
    refine VC_region ?_
    refine vl_v (q_loads 2 Try.underlying25 rfl rfl rfl sz25 (by with_reducible assumption)) rfl ?_
    refine vl_v (q_loads 1 Try.underlying23 rfl rfl rfl sz23 (by with_reducible assumption)) rfl ?_
    refine vl_v (q_callV Try.func24 rfl rfl rfl (fun w1 H1 => hcc w1)) rfl ?_
    refine vl_v (q_move rfl) rfl ?_
    refine vl_v (q_ext rfl rfl) rfl ?_
    refine vl_v (q_ext rfl rfl) rfl ?_
    refine l_allocA zr23 rfl ?_
    intro b9
    refine l_storeA 0 rfl rfl rfl sz23 (by with_reducible assumption) (by with_reducible first | exact bys_one _ | exact u32s_one _ | exact u64s_one _ | exact i64s_one _ | exact n64s_one _ | assumption) (by with_reducible assumption) ?_
    simp only [List.set_cons_zero, List.set_cons_succ]
    refine vl_v (q_assign rfl) rfl ?_
    refine vl_nil ?_
    refine (th_n ?_)
    refine VC_seq ?_
    refine VC_seq ?_
    refine VC_region ?_
    refine vl_v (q_move rfl) rfl ?_
    refine vl_v (q_as (v := .bool (decide (¬ comE r = 0))) (q_neq_n (q := 0) Try.underlying29 rfl rfl) (by simp)) rfl ?_
    refine vl_nil ?_
    refine (th_n ?_)
    refine VC_cond rfl (fun ht29 => ?_) (fun ht29 => ?_)
    · skip
      have ht29 := of_decide_eq_true ht29
      refine VC_region ?_
      refine vl_v (q_move rfl) rfl ?_
      refine l_store1 6 rfl rfl rfl sz29 rfl (by simp; done) ?_
      simp only [List.set_cons_zero, List.set_cons_succ]
      refine vl_nil ?_
      refine (th_n ?_)
      refine VC_drawQ 3 9 [[], [], [0], [1, 2, 0]] [[], [], [0], [0, 1, 2]] [([], [], [], [0, 1, 2, 3, 4, 5, 6, 7, 8], []), ([], [], [], [0, 1, 2, 3, 4, 5, 6, 8], []), ([0], [7], [], [0, 1, 2, 3, 4, 5, 6, 8], [0])] [0, 1, 2, 3, 4, 5, 6, 8] [0, 1, 2] rfl rfl (by kernel_rfl) ?_
      refine qp_v (fun xs gs hx => q_loads 0 Try.underlying23 rfl rfl rfl sz23 (by with_reducible assumption)) ?_
      refine qp_v (fun xs gs hx => q_loads 1 Try.underlying58 rfl rfl rfl sz58 (by with_reducible assumption)) ?_
      refine qp_storeA (fun xs gs hx => rfl) (fun xs gs hx => rfl) (fun xs gs hx => rfl) sz23 (fun xs gs hx => by first | with_reducible assumption | omega | exact lz | exact lz3 | rfl) (fun xs gs hx => by first | (with_reducible first | exact bys_one _ | exact u32s_one _ | exact u64s_one _ | exact i64s_one _ | exact n64s_one _ | assumption) | exact bys_one _ | exact u32s_one _ | exact u64s_one _ | exact i64s_one _ | exact one_all rfl | (refine app_one ?_ ?_ <;> first | exact bys_one _ | exact one_all rfl | (simp; done))) (fun xs gs hx => by first | with_reducible assumption | omega | exact lz | exact lz3 | rfl) ?_
      refine qp_end ?_
      intro xs gs hx
      obtain ⟨_, _⟩ := hx
      simp only [selI, ownsA, List.contains_cons, List.contains_nil, Nat.reduceBEq, Nat.reduceAdd, Bool.or_false, Bool.or_true, Bool.false_or, Bool.true_or, mask, nRow, nBlk, nRowT, tupAt_0, tupAt_1, List.append_assoc, List.nil_append, List.append_nil, List.cons_append, List.singleton_append]
      refine VL.keep (Sub.cons (s := 0) rfl (Sub.cons (s := 1) rfl (Sub.cons (s := 2) rfl (Sub.cons (s := 3) rfl (Sub.cons (s := 4) rfl (Sub.cons (s := 5) rfl (Sub.cons (s := 6) rfl (Sub.cons (s := 7) rfl (Sub.cons (s := 8) rfl (Sub.cons (s := 21) rfl (Sub.cons (s := 9) rfl (Sub.cons (s := 10) rfl (Sub.cons (s := 29) rfl (Sub.cons (s := 32) rfl (Sub.nil _))))))))))))))) ?_
      refine l_storeA 4 rfl rfl rfl sz58 (by with_reducible assumption) (by with_reducible first | exact bys_one _ | exact u32s_one _ | exact u64s_one _ | exact i64s_one _ | exact n64s_one _ | assumption) (by with_reducible assumption) ?_
      simp only [List.set_cons_zero, List.set_cons_succ]
      refine vl_nil ?_
      refine (qn_n (th_n ?_))
      refine VC_drawQ 5 9 [[], [], [], [1, 2], [3], [0, 4, 3], [5, 0, 1, 2, 3, 4]] [[], [], [], [1, 2], [1, 2, 3], [0, 1, 2, 3, 4], [0, 1, 2, 3, 4, 5]] [([], [], [], [0, 1, 2, 3, 4, 5, 6, 7, 8], []), ([], [], [], [0, 1, 2, 3, 4, 5, 6, 7, 8], []), ([], [], [], [0, 1, 2, 3, 4, 5, 6, 7, 8], []), ([1, 2], [], [1], [0, 1, 2, 3, 4, 5, 6, 7, 8], [2]), ([1, 2, 3], [], [], [0, 1, 2, 3, 4, 5, 6, 7, 8], [2, 3])] [0, 1, 2, 3, 4, 5, 6, 7, 8] [0, 2, 3, 4] rfl rfl (by kernel_rfl) ?_
      refine qp_v (fun xs gs hx => q_load 5 Try.underlying51 rfl rfl rfl rfl) ?_
      refine qp_a (fun xs gs hx => q_litA (cs := bys []) Try.underlying45 in5 (by decide) rfl rfl rfl rfl (by exact one_all rfl) rfl) ?_
      refine qp_v (fun xs gs hx => q_slcA Try.underlying23 sz5 rfl rfl rfl rfl (.inl rfl) (by omega) (by omega) (by omega) (by omega) (by (try simp only [Nat.mul_one, Nat.zero_add, Nat.zero_mul, Nat.mul_zero, Nat.add_zero]) <;> rfl)) ?_
      refine qp_append Try.underlying45 Try.underlying45 in5 rfl (by decide) (fun xs gs hx => rfl) (fun xs gs hx => rfl) (fun xs gs hx => ⟨_, _, rfl, Reads.blk 8 rfl⟩) (fun xs gs hx => by first | with_reducible assumption | omega | exact lz | exact lz3 | rfl) (fun xs gs hx => by first | (with_reducible first | exact bys_one _ | exact u32s_one _ | exact u64s_one _ | exact i64s_one _ | exact n64s_one _ | assumption) | exact bys_one _ | exact u32s_one _ | exact u64s_one _ | exact i64s_one _ | exact one_all rfl | (refine app_one ?_ ?_ <;> first | exact bys_one _ | exact one_all rfl | (simp; done))) (by omega) (by omega) ?_
      refine qp_a (fun xs gs hx => q_litA (cs := [xs 3]) Try.underlying51 in45 (by decide) rfl rfl rfl rfl (by intro v hv; rw [List.mem_singleton] at hv; subst hv; obtain ⟨A, c, e, _⟩ := hx.2.1 rfl; rw [e]; rfl) rfl) ?_
      refine qp_end ?_
      intro xs gs hx
      obtain ⟨⟨b34, e34⟩, ⟨A36, c36, e36, hc36, hm36⟩, ⟨b37, e37⟩, _⟩ := hx
      simp only [selI, ownsA, List.contains_cons, List.contains_nil, Nat.reduceBEq, Nat.reduceAdd, Bool.or_false, Bool.or_true, Bool.false_or, Bool.true_or, mask, nRow, nBlk, nRowT, tupAt_0, tupAt_1, List.append_assoc, List.nil_append, List.append_nil, List.cons_append, List.singleton_append, e34, e36, e37]
      refine VL.keep (Sub.cons (s := 0) rfl (Sub.cons (s := 1) rfl (Sub.cons (s := 2) rfl (Sub.cons (s := 3) rfl (Sub.cons (s := 4) rfl (Sub.cons (s := 5) rfl (Sub.cons (s := 6) rfl (Sub.cons (s := 7) rfl (Sub.cons (s := 8) rfl (Sub.cons (s := 21) rfl (Sub.cons (s := 9) rfl (Sub.cons (s := 10) rfl (Sub.cons (s := 29) rfl (Sub.cons (s := 33) rfl (Sub.cons (s := 37) rfl (Sub.nil _)))))))))))))))) ?_
      refine l_append 7 rfl rfl rfl Try.underlying51 Try.underlying51 in45 rfl (by decide) (Reads.row 10 rfl) (by rfl) (by exact one_all rfl) (by omega) (by omega) rfl ?_
      intro A38 c38 hc38
      simp only [List.set_cons_zero, List.set_cons_succ, ← bys_append, ← u32s_append, ← u64s_append, ← i64s_append, List.nil_append, Nat.zero_add]
      refine l_store1 5 rfl rfl rfl sz51 rfl (by simp; done) ?_
      simp only [List.set_cons_zero, List.set_cons_succ]
      refine vl_nil ?_
      refine (qn_n ?_)
      refine ⟨_, res0 rfl, ?_⟩
      first | rw [show badN r bad = comE r from if_neg ht29] | rw [show badN r bad = bad from if_pos (Decidable.not_not.1 ht29)] | (rw [badN_same hk2]; obtain rfl := Decidable.not_not.1 hs16)
      first | exact ⟨rfl, fun w' H => ⟨(_, _), (_, _), H.pick (ks := [4, 5, 6, 8, 7, 9]) (by decide) rfl⟩⟩ | exact ⟨rfl, fun w' H => ⟨(_, _), (_, _), H.pick (ks := [3, 4, 5, 6, 7, 8]) (by decide) rfl⟩⟩
    · skip
      have ht29 := of_decide_eq_false ht29
      refine VC_skip ?_
      refine (th_n ?_)
      refine VC_drawQ 3 9 [[], [], [0], [1, 2, 0]] [[], [], [0], [0, 1, 2]] [([], [], [], [0, 1, 2, 3, 4, 5, 6, 7, 8], []), ([], [], [], [0, 1, 2, 3, 4, 5, 6, 8], []), ([0], [7], [], [0, 1, 2, 3, 4, 5, 6, 8], [0])] [0, 1, 2, 3, 4, 5, 6, 8] [0, 1, 2] rfl rfl (by kernel_rfl) ?_
      refine qp_v (fun xs gs hx => q_loads 0 Try.underlying23 rfl rfl rfl sz23 (by with_reducible assumption)) ?_
      refine qp_v (fun xs gs hx => q_loads 1 Try.underlying58 rfl rfl rfl sz58 (by with_reducible assumption)) ?_
      refine qp_storeA (fun xs gs hx => rfl) (fun xs gs hx => rfl) (fun xs gs hx => rfl) sz23 (fun xs gs hx => by first | with_reducible assumption | omega | exact lz | exact lz3 | rfl) (fun xs gs hx => by first | (with_reducible first | exact bys_one _ | exact u32s_one _ | exact u64s_one _ | exact i64s_one _ | exact n64s_one _ | assumption) | exact bys_one _ | exact u32s_one _ | exact u64s_one _ | exact i64s_one _ | exact one_all rfl | (refine app_one ?_ ?_ <;> first | exact bys_one _ | exact one_all rfl | (simp; done))) (fun xs gs hx => by first | with_reducible assumption | omega | exact lz | exact lz3 | rfl) ?_
      refine qp_end ?_
      intro xs gs hx
      obtain ⟨_, _⟩ := hx
      simp only [selI, ownsA, List.contains_cons, List.contains_nil, Nat.reduceBEq, Nat.reduceAdd, Bool.or_false, Bool.or_true, Bool.false_or, Bool.true_or, mask, nRow, nBlk, nRowT, tupAt_0, tupAt_1, List.append_assoc, List.nil_append, List.append_nil, List.cons_append, List.singleton_append]
      refine VL.keep (Sub.cons (s := 0) rfl (Sub.cons (s := 1) rfl (Sub.cons (s := 2) rfl (Sub.cons (s := 3) rfl (Sub.cons (s := 4) rfl (Sub.cons (s := 5) rfl (Sub.cons (s := 6) rfl (Sub.cons (s := 7) rfl (Sub.cons (s := 8) rfl (Sub.cons (s := 21) rfl (Sub.cons (s := 9) rfl (Sub.cons (s := 10) rfl (Sub.cons (s := 29) rfl (Sub.cons (s := 32) rfl (Sub.nil _))))))))))))))) ?_
      refine l_storeA 4 rfl rfl rfl sz58 (by with_reducible assumption) (by with_reducible first | exact bys_one _ | exact u32s_one _ | exact u64s_one _ | exact i64s_one _ | exact n64s_one _ | assumption) (by with_reducible assumption) ?_
      simp only [List.set_cons_zero, List.set_cons_succ]
      refine vl_nil ?_
      refine (qn_n (th_n ?_))
      refine VC_drawQ 5 9 [[], [], [], [1, 2], [3], [0, 4, 3], [5, 0, 1, 2, 3, 4]] [[], [], [], [1, 2], [1, 2, 3], [0, 1, 2, 3, 4], [0, 1, 2, 3, 4, 5]] [([], [], [], [0, 1, 2, 3, 4, 5, 6, 7, 8], []), ([], [], [], [0, 1, 2, 3, 4, 5, 6, 7, 8], []), ([], [], [], [0, 1, 2, 3, 4, 5, 6, 7, 8], []), ([1, 2], [], [1], [0, 1, 2, 3, 4, 5, 6, 7, 8], [2]), ([1, 2, 3], [], [], [0, 1, 2, 3, 4, 5, 6, 7, 8], [2, 3])] [0, 1, 2, 3, 4, 5, 6, 7, 8] [0, 2, 3, 4] rfl rfl (by kernel_rfl) ?_
      refine qp_v (fun xs gs hx => q_load 5 Try.underlying51 rfl rfl rfl rfl) ?_
      refine qp_a (fun xs gs hx => q_litA (cs := bys []) Try.underlying45 in5 (by decide) rfl rfl rfl rfl (by exact one_all rfl) rfl) ?_
      refine qp_v (fun xs gs hx => q_slcA Try.underlying23 sz5 rfl rfl rfl rfl (.inl rfl) (by omega) (by omega) (by omega) (by omega) (by (try simp only [Nat.mul_one, Nat.zero_add, Nat.zero_mul, Nat.mul_zero, Nat.add_zero]) <;> rfl)) ?_
      refine qp_append Try.underlying45 Try.underlying45 in5 rfl (by decide) (fun xs gs hx => rfl) (fun xs gs hx => rfl) (fun xs gs hx => ⟨_, _, rfl, Reads.blk 8 rfl⟩) (fun xs gs hx => by first | with_reducible assumption | omega | exact lz | exact lz3 | rfl) (fun xs gs hx => by first | (with_reducible first | exact bys_one _ | exact u32s_one _ | exact u64s_one _ | exact i64s_one _ | exact n64s_one _ | assumption) | exact bys_one _ | exact u32s_one _ | exact u64s_one _ | exact i64s_one _ | exact one_all rfl | (refine app_one ?_ ?_ <;> first | exact bys_one _ | exact one_all rfl | (simp; done))) (by omega) (by omega) ?_
      refine qp_a (fun xs gs hx => q_litA (cs := [xs 3]) Try.underlying51 in45 (by decide) rfl rfl rfl rfl (by intro v hv; rw [List.mem_singleton] at hv; subst hv; obtain ⟨A, c, e, _⟩ := hx.2.1 rfl; rw [e]; rfl) rfl) ?_
      refine qp_end ?_
      intro xs gs hx
      obtain ⟨⟨b34, e34⟩, ⟨A36, c36, e36, hc36, hm36⟩, ⟨b37, e37⟩, _⟩ := hx
      simp only [selI, ownsA, List.contains_cons, List.contains_nil, Nat.reduceBEq, Nat.reduceAdd, Bool.or_false, Bool.or_true, Bool.false_or, Bool.true_or, mask, nRow, nBlk, nRowT, tupAt_0, tupAt_1, List.append_assoc, List.nil_append, List.append_nil, List.cons_append, List.singleton_append, e34, e36, e37]
      refine VL.keep (Sub.cons (s := 0) rfl (Sub.cons (s := 1) rfl (Sub.cons (s := 2) rfl (Sub.cons (s := 3) rfl (Sub.cons (s := 4) rfl (Sub.cons (s := 5) rfl (Sub.cons (s := 6) rfl (Sub.cons (s := 7) rfl (Sub.cons (s := 8) rfl (Sub.cons (s := 21) rfl (Sub.cons (s := 9) rfl (Sub.cons (s := 10) rfl (Sub.cons (s := 29) rfl (Sub.cons (s := 33) rfl (Sub.cons (s := 37) rfl (Sub.nil _)))))))))))))))) ?_
      refine l_append 7 rfl rfl rfl Try.underlying51 Try.underlying51 in45 rfl (by decide) (Reads.row 10 rfl) (by rfl) (by exact one_all rfl) (by omega) (by omega) rfl ?_
      intro A38 c38 hc38
      simp only [List.set_cons_zero, List.set_cons_succ, ← bys_append, ← u32s_append, ← u64s_append, ← i64s_append, List.nil_append, Nat.zero_add]
      refine l_store1 5 rfl rfl rfl sz51 rfl (by simp; done) ?_
      simp only [List.set_cons_zero, List.set_cons_succ]
      refine vl_nil ?_
      refine (qn_n ?_)
      refine ⟨_, res0 rfl, ?_⟩
      first | rw [show badN r bad = comE r from if_neg ht29] | rw [show badN r bad = bad from if_pos (Decidable.not_not.1 ht29)] | (rw [badN_same hk2]; obtain rfl := Decidable.not_not.1 hs16)
      first | exact ⟨rfl, fun w' H => ⟨(_, _), (_, _), H.pick (ks := [4, 5, 6, 8, 7, 9]) (by decide) rfl⟩⟩ | exact ⟨rfl, fun w' H => ⟨(_, _), (_, _), H.pick (ks := [3, 4, 5, 6, 7, 8]) (by decide) rfl⟩⟩
  · skip
    rw [show decide (¬ (p = lst)) = false from decide_eq_false hs16]
    refine vl_v (q_move rfl) rfl ?_
    refine vl_vg rfl (q_load 4 Try.underlying51 rfl rfl rfl rfl) rfl ?_
    refine vl_vg rfl (q_lenS Try.underlying51 rfl) rfl ?_
    refine vl_vg rfl (q_eql_n (q := 0) Try.underlying3 rfl rfl) rfl ?_
    refine vl_v (q_pickF rfl rfl) rfl ?_
    refine vl_nil ?_
    refine (th_n ?_)
    refine VC_cond rfl (fun ht21 => ?_) (fun ht21 => ?_)
    · skip
      have ht21 := of_decide_eq_true ht21
      refine VC_seq ?_
      refine VC_region ?_
      refine vl_v (q_loads 2 Try.underlying25 rfl rfl rfl sz25 (by with_reducible assumption)) rfl ?_
      refine vl_v (q_loads 1 Try.underlying23 rfl rfl rfl sz23 (by with_reducible assumption)) rfl ?_
      refine vl_v (q_callV Try.func24 rfl rfl rfl (fun w1 H1 => hcc w1)) rfl ?_
      refine vl_v (q_move rfl) rfl ?_
      refine vl_v (q_ext rfl rfl) rfl ?_
      refine vl_v (q_ext rfl rfl) rfl ?_
      refine l_allocA zr23 rfl ?_
      intro b9
      refine l_storeA 0 rfl rfl rfl sz23 (by with_reducible assumption) (by with_reducible first | exact bys_one _ | exact u32s_one _ | exact u64s_one _ | exact i64s_one _ | exact n64s_one _ | assumption) (by with_reducible assumption) ?_
      simp only [List.set_cons_zero, List.set_cons_succ]
      refine vl_v (q_assign rfl) rfl ?_
      refine vl_nil ?_
      refine (th_n ?_)
      refine VC_seq ?_
      refine VC_seq ?_
      refine VC_region ?_
      refine vl_v (q_move rfl) rfl ?_
      refine vl_v (q_as (v := .bool (decide (¬ comE r = 0))) (q_neq_n (q := 0) Try.underlying29 rfl rfl) (by simp)) rfl ?_
      refine vl_nil ?_
      refine (th_n ?_)
      refine VC_cond rfl (fun ht29 => ?_) (fun ht29 => ?_)
      · skip
        have ht29 := of_decide_eq_true ht29
        refine VC_region ?_
        refine vl_v (q_move rfl) rfl ?_
        refine l_store1 6 rfl rfl rfl sz29 rfl (by simp; done) ?_
        simp only [List.set_cons_zero, List.set_cons_succ]
        refine vl_nil ?_
        refine (th_n ?_)
        refine VC_drawQ 3 9 [[], [], [0], [1, 2, 0]] [[], [], [0], [0, 1, 2]] [([], [], [], [0, 1, 2, 3, 4, 5, 6, 7, 8], []), ([], [], [], [0, 1, 2, 3, 4, 5, 6, 8], []), ([0], [7], [], [0, 1, 2, 3, 4, 5, 6, 8], [0])] [0, 1, 2, 3, 4, 5, 6, 8] [0, 1, 2] rfl rfl (by kernel_rfl) ?_
        refine qp_v (fun xs gs hx => q_loads 0 Try.underlying23 rfl rfl rfl sz23 (by with_reducible assumption)) ?_
        refine qp_v (fun xs gs hx => q_loads 1 Try.underlying58 rfl rfl rfl sz58 (by with_reducible assumption)) ?_
        refine qp_storeA (fun xs gs hx => rfl) (fun xs gs hx => rfl) (fun xs gs hx => rfl) sz23 (fun xs gs hx => by first | with_reducible assumption | omega | exact lz | exact lz3 | rfl) (fun xs gs hx => by first | (with_reducible first | exact bys_one _ | exact u32s_one _ | exact u64s_one _ | exact i64s_one _ | exact n64s_one _ | assumption) | exact bys_one _ | exact u32s_one _ | exact u64s_one _ | exact i64s_one _ | exact one_all rfl | (refine app_one ?_ ?_ <;> first | exact bys_one _ | exact one_all rfl | (simp; done))) (fun xs gs hx => by first | with_reducible assumption | omega | exact lz | exact lz3 | rfl) ?_
        refine qp_end ?_
        intro xs gs hx
        obtain ⟨_, _⟩ := hx
        simp only [selI, ownsA, List.contains_cons, List.contains_nil, Nat.reduceBEq, Nat.reduceAdd, Bool.or_false, Bool.or_true, Bool.false_or, Bool.true_or, mask, nRow, nBlk, nRowT, tupAt_0, tupAt_1, List.append_assoc, List.nil_append, List.append_nil, List.cons_append, List.singleton_append]
        refine VL.keep (Sub.cons (s := 0) rfl (Sub.cons (s := 1) rfl (Sub.cons (s := 2) rfl (Sub.cons (s := 3) rfl (Sub.cons (s := 4) rfl (Sub.cons (s := 5) rfl (Sub.cons (s := 6) rfl (Sub.cons (s := 7) rfl (Sub.cons (s := 8) rfl (Sub.cons (s := 21) rfl (Sub.cons (s := 9) rfl (Sub.cons (s := 10) rfl (Sub.cons (s := 29) rfl (Sub.cons (s := 32) rfl (Sub.nil _))))))))))))))) ?_
        refine l_storeA 4 rfl rfl rfl sz58 (by with_reducible assumption) (by with_reducible first | exact bys_one _ | exact u32s_one _ | exact u64s_one _ | exact i64s_one _ | exact n64s_one _ | assumption) (by with_reducible assumption) ?_
        simp only [List.set_cons_zero, List.set_cons_succ]
        refine vl_nil ?_
        refine (qn_n (th_n ?_))
        refine VC_drawQ 5 9 [[], [], [], [1, 2], [3], [0, 4, 3], [5, 0, 1, 2, 3, 4]] [[], [], [], [1, 2], [1, 2, 3], [0, 1, 2, 3, 4], [0, 1, 2, 3, 4, 5]] [([], [], [], [0, 1, 2, 3, 4, 5, 6, 7, 8], []), ([], [], [], [0, 1, 2, 3, 4, 5, 6, 7, 8], []), ([], [], [], [0, 1, 2, 3, 4, 5, 6, 7, 8], []), ([1, 2], [], [1], [0, 1, 2, 3, 4, 5, 6, 7, 8], [2]), ([1, 2, 3], [], [], [0, 1, 2, 3, 4, 5, 6, 7, 8], [2, 3])] [0, 1, 2, 3, 4, 5, 6, 7, 8] [0, 2, 3, 4] rfl rfl (by kernel_rfl) ?_
        refine qp_v (fun xs gs hx => q_load 5 Try.underlying51 rfl rfl rfl rfl) ?_
        refine qp_a (fun xs gs hx => q_litA (cs := bys []) Try.underlying45 in5 (by decide) rfl rfl rfl rfl (by exact one_all rfl) rfl) ?_
        refine qp_v (fun xs gs hx => q_slcA Try.underlying23 sz5 rfl rfl rfl rfl (.inl rfl) (by omega) (by omega) (by omega) (by omega) (by (try simp only [Nat.mul_one, Nat.zero_add, Nat.zero_mul, Nat.mul_zero, Nat.add_zero]) <;> rfl)) ?_
        refine qp_append Try.underlying45 Try.underlying45 in5 rfl (by decide) (fun xs gs hx => rfl) (fun xs gs hx => rfl) (fun xs gs hx => ⟨_, _, rfl, Reads.blk 8 rfl⟩) (fun xs gs hx => by first | with_reducible assumption | omega | exact lz | exact lz3 | rfl) (fun xs gs hx => by first | (with_reducible first | exact bys_one _ | exact u32s_one _ | exact u64s_one _ | exact i64s_one _ | exact n64s_one _ | assumption) | exact bys_one _ | exact u32s_one _ | exact u64s_one _ | exact i64s_one _ | exact one_all rfl | (refine app_one ?_ ?_ <;> first | exact bys_one _ | exact one_all rfl | (simp; done))) (by omega) (by omega) ?_
        refine qp_a (fun xs gs hx => q_litA (cs := [xs 3]) Try.underlying51 in45 (by decide) rfl rfl rfl rfl (by intro v hv; rw [List.mem_singleton] at hv; subst hv; obtain ⟨A, c, e, _⟩ := hx.2.1 rfl; rw [e]; rfl) rfl) ?_
        refine qp_end ?_
        intro xs gs hx
        obtain ⟨⟨b34, e34⟩, ⟨A36, c36, e36, hc36, hm36⟩, ⟨b37, e37⟩, _⟩ := hx
        simp only [selI, ownsA, List.contains_cons, List.contains_nil, Nat.reduceBEq, Nat.reduceAdd, Bool.or_false, Bool.or_true, Bool.false_or, Bool.true_or, mask, nRow, nBlk, nRowT, tupAt_0, tupAt_1, List.append_assoc, List.nil_append, List.append_nil, List.cons_append, List.singleton_append, e34, e36, e37]
        refine VL.keep (Sub.cons (s := 0) rfl (Sub.cons (s := 1) rfl (Sub.cons (s := 2) rfl (Sub.cons (s := 3) rfl (Sub.cons (s := 4) rfl (Sub.cons (s := 5) rfl (Sub.cons (s := 6) rfl (Sub.cons (s := 7) rfl (Sub.cons (s := 8) rfl (Sub.cons (s := 21) rfl (Sub.cons (s := 9) rfl (Sub.cons (s := 10) rfl (Sub.cons (s := 29) rfl (Sub.cons (s := 33) rfl (Sub.cons (s := 37) rfl (Sub.nil _)))))))))))))))) ?_
        refine l_append 7 rfl rfl rfl Try.underlying51 Try.underlying51 in45 rfl (by decide) (Reads.row 10 rfl) (by rfl) (by exact one_all rfl) (by omega) (by omega) rfl ?_
        intro A38 c38 hc38
        simp only [List.set_cons_zero, List.set_cons_succ, ← bys_append, ← u32s_append, ← u64s_append, ← i64s_append, List.nil_append, Nat.zero_add]
        refine l_store1 5 rfl rfl rfl sz51 rfl (by simp; done) ?_
        simp only [List.set_cons_zero, List.set_cons_succ]
        refine vl_nil ?_
        refine (qn_n ?_)
        refine ⟨_, res0 rfl, ?_⟩
        first | rw [show badN r bad = comE r from if_neg ht29] | rw [show badN r bad = bad from if_pos (Decidable.not_not.1 ht29)] | (rw [badN_same hk2]; obtain rfl := Decidable.not_not.1 hs16)
        first | exact ⟨rfl, fun w' H => ⟨(_, _), (_, _), H.pick (ks := [4, 5, 6, 8, 7, 9]) (by decide) rfl⟩⟩ | exact ⟨rfl, fun w' H => ⟨(_, _), (_, _), H.pick (ks := [3, 4, 5, 6, 7, 8]) (by decide) rfl⟩⟩
      · skip
        have ht29 := of_decide_eq_false ht29
        refine VC_skip ?_
        refine (th_n ?_)
        refine VC_drawQ 3 9 [[], [], [0], [1, 2, 0]] [[], [], [0], [0, 1, 2]] [([], [], [], [0, 1, 2, 3, 4, 5, 6, 7, 8], []), ([], [], [], [0, 1, 2, 3, 4, 5, 6, 8], []), ([0], [7], [], [0, 1, 2, 3, 4, 5, 6, 8], [0])] [0, 1, 2, 3, 4, 5, 6, 8] [0, 1, 2] rfl rfl (by kernel_rfl) ?_
        refine qp_v (fun xs gs hx => q_loads 0 Try.underlying23 rfl rfl rfl sz23 (by with_reducible assumption)) ?_
        refine qp_v (fun xs gs hx => q_loads 1 Try.underlying58 rfl rfl rfl sz58 (by with_reducible assumption)) ?_
        refine qp_storeA (fun xs gs hx => rfl) (fun xs gs hx => rfl) (fun xs gs hx => rfl) sz23 (fun xs gs hx => by first | with_reducible assumption | omega | exact lz | exact lz3 | rfl) (fun xs gs hx => by first | (with_reducible first | exact bys_one _ | exact u32s_one _ | exact u64s_one _ | exact i64s_one _ | exact n64s_one _ | assumption) | exact bys_one _ | exact u32s_one _ | exact u64s_one _ | exact i64s_one _ | exact one_all rfl | (refine app_one ?_ ?_ <;> first | exact bys_one _ | exact one_all rfl | (simp; done))) (fun xs gs hx => by first | with_reducible assumption | omega | exact lz | exact lz3 | rfl) ?_
        refine qp_end ?_
        intro xs gs hx
        obtain ⟨_, _⟩ := hx
        simp only [selI, ownsA, List.contains_cons, List.contains_nil, Nat.reduceBEq, Nat.reduceAdd, Bool.or_false, Bool.or_true, Bool.false_or, Bool.true_or, mask, nRow, nBlk, nRowT, tupAt_0, tupAt_1, List.append_assoc, List.nil_append, List.append_nil, List.cons_append, List.singleton_append]
        refine VL.keep (Sub.cons (s := 0) rfl (Sub.cons (s := 1) rfl (Sub.cons (s := 2) rfl (Sub.cons (s := 3) rfl (Sub.cons (s := 4) rfl (Sub.cons (s := 5) rfl (Sub.cons (s := 6) rfl (Sub.cons (s := 7) rfl (Sub.cons (s := 8) rfl (Sub.cons (s := 21) rfl (Sub.cons (s := 9) rfl (Sub.cons (s := 10) rfl (Sub.cons (s := 29) rfl (Sub.cons (s := 32) rfl (Sub.nil _))))))))))))))) ?_
        refine l_storeA 4 rfl rfl rfl sz58 (by with_reducible assumption) (by with_reducible first | exact bys_one _ | exact u32s_one _ | exact u64s_one _ | exact i64s_one _ | exact n64s_one _ | assumption) (by with_reducible assumption) ?_
        simp only [List.set_cons_zero, List.set_cons_succ]
        refine vl_nil ?_
        refine (qn_n (th_n ?_))
        refine VC_drawQ 5 9 [[], [], [], [1, 2], [3], [0, 4, 3], [5, 0, 1, 2, 3, 4]] [[], [], [], [1, 2], [1, 2, 3], [0, 1, 2, 3, 4], [0, 1, 2, 3, 4, 5]] [([], [], [], [0, 1, 2, 3, 4, 5, 6, 7, 8], []), ([], [], [], [0, 1, 2, 3, 4, 5, 6, 7, 8], []), ([], [], [], [0, 1, 2, 3, 4, 5, 6, 7, 8], []), ([1, 2], [], [1], [0, 1, 2, 3, 4, 5, 6, 7, 8], [2]), ([1, 2, 3], [], [], [0, 1, 2, 3, 4, 5, 6, 7, 8], [2, 3])] [0, 1, 2, 3, 4, 5, 6, 7, 8] [0, 2, 3, 4] rfl rfl (by kernel_rfl) ?_
        refine qp_v (fun xs gs hx => q_load 5 Try.underlying51 rfl rfl rfl rfl) ?_
        refine qp_a (fun xs gs hx => q_litA (cs := bys []) Try.underlying45 in5 (by decide) rfl rfl rfl rfl (by exact one_all rfl) rfl) ?_
        refine qp_v (fun xs gs hx => q_slcA Try.underlying23 sz5 rfl rfl rfl rfl (.inl rfl) (by omega) (by omega) (by omega) (by omega) (by (try simp only [Nat.mul_one, Nat.zero_add, Nat.zero_mul, Nat.mul_zero, Nat.add_zero]) <;> rfl)) ?_
        refine qp_append Try.underlying45 Try.underlying45 in5 rfl (by decide) (fun xs gs hx => rfl) (fun xs gs hx => rfl) (fun xs gs hx => ⟨_, _, rfl, Reads.blk 8 rfl⟩) (fun xs gs hx => by first | with_reducible assumption | omega | exact lz | exact lz3 | rfl) (fun xs gs hx => by first | (with_reducible first | exact bys_one _ | exact u32s_one _ | exact u64s_one _ | exact i64s_one _ | exact n64s_one _ | assumption) | exact bys_one _ | exact u32s_one _ | exact u64s_one _ | exact i64s_one _ | exact one_all rfl | (refine app_one ?_ ?_ <;> first | exact bys_one _ | exact one_all rfl | (simp; done))) (by omega) (by omega) ?_
        refine qp_a (fun xs gs hx => q_litA (cs := [xs 3]) Try.underlying51 in45 (by decide) rfl rfl rfl rfl (by intro v hv; rw [List.mem_singleton] at hv; subst hv; obtain ⟨A, c, e, _⟩ := hx.2.1 rfl; rw [e]; rfl) rfl) ?_
        refine qp_end ?_
        intro xs gs hx
        obtain ⟨⟨b34, e34⟩, ⟨A36, c36, e36, hc36, hm36⟩, ⟨b37, e37⟩, _⟩ := hx
        simp only [selI, ownsA, List.contains_cons, List.contains_nil, Nat.reduceBEq, Nat.reduceAdd, Bool.or_false, Bool.or_true, Bool.false_or, Bool.true_or, mask, nRow, nBlk, nRowT, tupAt_0, tupAt_1, List.append_assoc, List.nil_append, List.append_nil, List.cons_append, List.singleton_append, e34, e36, e37]
        refine VL.keep (Sub.cons (s := 0) rfl (Sub.cons (s := 1) rfl (Sub.cons (s := 2) rfl (Sub.cons (s := 3) rfl (Sub.cons (s := 4) rfl (Sub.cons (s := 5) rfl (Sub.cons (s := 6) rfl (Sub.cons (s := 7) rfl (Sub.cons (s := 8) rfl (Sub.cons (s := 21) rfl (Sub.cons (s := 9) rfl (Sub.cons (s := 10) rfl (Sub.cons (s := 29) rfl (Sub.cons (s := 33) rfl (Sub.cons (s := 37) rfl (Sub.nil _)))))))))))))))) ?_
        refine l_append 7 rfl rfl rfl Try.underlying51 Try.underlying51 in45 rfl (by decide) (Reads.row 10 rfl) (by rfl) (by exact one_all rfl) (by omega) (by omega) rfl ?_
        intro A38 c38 hc38
        simp only [List.set_cons_zero, List.set_cons_succ, ← bys_append, ← u32s_append, ← u64s_append, ← i64s_append, List.nil_append, Nat.zero_add]
        refine l_store1 5 rfl rfl rfl sz51 rfl (by simp; done) ?_
        simp only [List.set_cons_zero, List.set_cons_succ]
        refine vl_nil ?_
        refine (qn_n ?_)
        refine ⟨_, res0 rfl, ?_⟩
        first | rw [show badN r bad = comE r from if_neg ht29] | rw [show badN r bad = bad from if_pos (Decidable.not_not.1 ht29)] | (rw [badN_same hk2]; obtain rfl := Decidable.not_not.1 hs16)
        first | exact ⟨rfl, fun w' H => ⟨(_, _), (_, _), H.pick (ks := [4, 5, 6, 8, 7, 9]) (by decide) rfl⟩⟩ | exact ⟨rfl, fun w' H => ⟨(_, _), (_, _), H.pick (ks := [3, 4, 5, 6, 7, 8]) (by decide) rfl⟩⟩
    · skip
      have ht21 := of_decide_eq_false ht21
      obtain ⟨hk1, hk2⟩ := hinv (Decidable.not_not.1 hs16) (by omega)
      subst hk1
      refine VC_skip ?_
      refine (th_n ?_)
      refine VC_drawQ 5 8 [[], [], [], [1, 2], [3], [0, 4, 3], [5, 0, 1, 2, 3, 4]] [[], [], [], [1, 2], [1, 2, 3], [0, 1, 2, 3, 4], [0, 1, 2, 3, 4, 5]] [([], [], [], [0, 1, 2, 3, 4, 5, 6, 7], []), ([], [], [], [0, 1, 2, 3, 4, 5, 6, 7], []), ([], [], [], [0, 1, 2, 3, 4, 5, 6, 7], []), ([1, 2], [], [1], [0, 1, 2, 3, 4, 5, 6, 7], [2]), ([1, 2, 3], [], [], [0, 1, 2, 3, 4, 5, 6, 7], [2, 3])] [0, 1, 2, 3, 4, 5, 6, 7] [0, 2, 3, 4] rfl rfl (by kernel_rfl) ?_
      refine qp_v (fun xs gs hx => q_load 4 Try.underlying51 rfl rfl rfl rfl) ?_
      refine qp_a (fun xs gs hx => q_litA (cs := bys []) Try.underlying45 in5 (by decide) rfl rfl rfl rfl (by exact one_all rfl) rfl) ?_
      refine qp_v (fun xs gs hx => q_slcA Try.underlying23 sz5 rfl rfl rfl rfl (.inl rfl) (by omega) (by omega) (by omega) (by omega) (by (try simp only [Nat.mul_one, Nat.zero_add, Nat.zero_mul, Nat.mul_zero, Nat.add_zero]) <;> rfl)) ?_
      refine qp_append Try.underlying45 Try.underlying45 in5 rfl (by decide) (fun xs gs hx => rfl) (fun xs gs hx => rfl) (fun xs gs hx => ⟨_, _, rfl, Reads.blk 6 rfl⟩) (fun xs gs hx => by first | with_reducible assumption | omega | exact lz | exact lz3 | rfl) (fun xs gs hx => by first | (with_reducible first | exact bys_one _ | exact u32s_one _ | exact u64s_one _ | exact i64s_one _ | exact n64s_one _ | assumption) | exact bys_one _ | exact u32s_one _ | exact u64s_one _ | exact i64s_one _ | exact one_all rfl | (refine app_one ?_ ?_ <;> first | exact bys_one _ | exact one_all rfl | (simp; done))) (by omega) (by omega) ?_
      refine qp_a (fun xs gs hx => q_litA (cs := [xs 3]) Try.underlying51 in45 (by decide) rfl rfl rfl rfl (by intro v hv; rw [List.mem_singleton] at hv; subst hv; obtain ⟨A, c, e, _⟩ := hx.2.1 rfl; rw [e]; rfl) rfl) ?_
      refine qp_end ?_
      intro xs gs hx
      obtain ⟨⟨b34, e34⟩, ⟨A36, c36, e36, hc36, hm36⟩, ⟨b37, e37⟩, _⟩ := hx
      simp only [selI, ownsA, List.contains_cons, List.contains_nil, Nat.reduceBEq, Nat.reduceAdd, Bool.or_false, Bool.or_true, Bool.false_or, Bool.true_or, mask, nRow, nBlk, nRowT, tupAt_0, tupAt_1, List.append_assoc, List.nil_append, List.append_nil, List.cons_append, List.singleton_append, e34, e36, e37]
      refine VL.keep (Sub.cons (s := 0) rfl (Sub.cons (s := 1) rfl (Sub.cons (s := 2) rfl (Sub.cons (s := 3) rfl (Sub.cons (s := 4) rfl (Sub.cons (s := 5) rfl (Sub.cons (s := 6) rfl (Sub.cons (s := 7) rfl (Sub.cons (s := 8) rfl (Sub.cons (s := 21) rfl (Sub.cons (s := 33) rfl (Sub.cons (s := 37) rfl (Sub.nil _))))))))))))) ?_
      refine l_append 7 rfl rfl rfl Try.underlying51 Try.underlying51 in45 rfl (by decide) (Reads.row 9 rfl) (by rfl) (by exact one_all rfl) (by omega) (by omega) rfl ?_
      intro A38 c38 hc38
      simp only [List.set_cons_zero, List.set_cons_succ, ← bys_append, ← u32s_append, ← u64s_append, ← i64s_append, List.nil_append, Nat.zero_add]
      refine l_store1 4 rfl rfl rfl sz51 rfl (by simp; done) ?_
      simp only [List.set_cons_zero, List.set_cons_succ]
      refine vl_nil ?_
      refine (qn_n ?_)
      refine ⟨_, res0 rfl, ?_⟩
      first | rw [show badN r bad = comE r from if_neg ht29] | rw [show badN r bad = bad from if_pos (Decidable.not_not.1 ht29)] | (rw [badN_same hk2]; obtain rfl := Decidable.not_not.1 hs16)
      first | exact ⟨rfl, fun w' H => ⟨(_, _), (_, _), H.pick (ks := [4, 5, 6, 8, 7, 9]) (by decide) rfl⟩⟩ | exact ⟨rfl, fun w' H => ⟨(_, _), (_, _), H.pick (ks := [3, 4, 5, 6, 7, 8]) (by decide) rfl⟩⟩
theorem have_calls {S : List Nat} {w0 : World} {R : List Res} (bl br be bk : Nat) (o q lst k r : List UInt8) (y : Option Addr × Nat) (bad n : Nat) (cs : List Value) (ho : o.length = 64) (hq : q.length = 32) (hl : lst.length = 96) (hk : k.length = 32) (hr : comB (o.take 32) q = r)
    (hinv : o ++ q = lst → 0 < n → k = r ∧ (comE r = 0 ∨ bad = comE r)) (hn : n ≤ 100) (w : World) (H : St S w0 (gCore bl br be bk lst y bad k n cs ++ R) w) :
    Calls Try.prog 23 #[.agg (bys o).toArray, .agg (bys q).toArray, vP bl 0, vP br 0, vP be 0, vP bk 0] w fun e w' => e = .returned (.tuple #[]) ∧ ∃ (y' x : Option Addr × Nat),
      St S w0 (gCore bl br be bk (o ++ q) y' (badN r bad) r (n + 1) (cs ++ [.slice x.1 32 x.2]) ++ (rowR r x :: R)) w' := by
  refine (have_core (S := ats (gCore bl br be bk lst y bad k n cs)) (w0 := w) bl br be bk o q lst k r y bad n cs ho hq hl hk hr hinv hn w H.own).mono ?_
  rintro e w' ⟨h1, y', x, h2⟩
  refine ⟨h1, y', x, ?_⟩
  have := H.swap h2
  rwa [List.append_assoc] at this
/-- what two have in common -/
def comI (i : List UInt8 × List UInt8) : List UInt8 := comB (i.1.take 32) i.2
theorem comI_length (i : List UInt8 × List UInt8) : (comI i).length = 32 := comB_length _ _
def badL (its : List (List UInt8 × List UInt8)) : Nat := its.foldl (fun b i => badN (comI i) b) 0
def okI (i : List UInt8 × List UInt8) : Prop := i.1.length = 64 ∧ i.2.length = 32
theorem inv_next {i j : List UInt8 × List UInt8} {b n : Nat} (hi : okI i) (hj : okI j) : j.1 ++ j.2 = i.1 ++ i.2 → 0 < n → comI i = comI j ∧ (comE (comI j) = 0 ∨ badN (comI i) b = comE (comI j)) := by
  intro h _
  have h2 := List.append_inj h (by rw [hi.1, hj.1])
  have e : comI i = comI j := by unfold comI; rw [h2.1, h2.2]
  refine ⟨e, ?_⟩
  rw [e]
  unfold badN
  by_cases h0 : comE (comI j) = 0
  · exact .inl h0
  · exact .inr (if_neg h0)
/-- rows of bytes that are owned -/
abbrev elemsR (es : List (List UInt8 × (Option Addr × Nat))) : List Res := es.map fun e => rowR e.1 e.2
abbrev elemsV (es : List (List UInt8 × (Option Addr × Nat))) : List Value := es.map fun e => .slice e.2.1 32 e.2.2
def haveV (bl br be bk : Nat) : Value := .func (.func 23) #[] [vP bl 0, vP br 0, vP be 0, vP bk 0].toArray
abbrev zB96 : List UInt8 := List.replicate 96 0
/-- a function by which what pairs have in common is gathered -/
def gathers (F : FuncId) (caps : List Value) (K : List Res) (w0 : World) (its : List (List UInt8 × List UInt8)) : Prop :=
  ∀ (bl br be bk : Nat) (m1 : Res) (w : World), St [] w0 (gCore bl br be bk zB96 (none, 0) 0 (List.replicate 32 0) 0 [] ++ (m1 :: K)) w →
    Calls Try.prog F (haveV bl br be bk :: caps).toArray w fun e w' => e = .returned (.tuple #[]) ∧ ∃ (y : Option Addr × Nat) (lst k : List UInt8) (es : List (List UInt8 × (Option Addr × Nat))),
      es.map Prod.fst = its.map comI ∧ lst.length = 96 ∧ k.length = 32 ∧ St [] w0 (gCore bl br be bk lst y (badL its) k its.length (elemsV es) ++ (m1 :: (elemsR es.reverse ++ K))) w'
end Go.Proofs.Ytabmfndiepmcgaa
end
section
namespace Go.Proofs.Ytabmfndiepmcgaa
open Go.RowKit Go.PBYtabmfndiepmcgaa
set_option linter.unusedVariables false
set_option linter.unusedSimpArgs false
set_option maxRecDepth 10000
/-- the key that comes of what pairs have in common -/
def agK (its : List (List UInt8 × List UInt8)) : List UInt8 := if badL its = 0 then macB (List.replicate 32 0) (joinB (its.map comI)) else List.replicate 32 0
theorem agK_length (its : List (List UInt8 × List UInt8)) : (agK its).length = 32 := by
  unfold agK
  split
  · exact macB_length _ _
  · simp
theorem joinB_coms : ∀ its : List (List UInt8 × List UInt8), (joinB (its.map comI)).length = 36 * its.length
  | [] => rfl
  | i :: r => by
    have ih := joinB_coms r
    rw [List.map_cons]
    show (highB (comI i).length 4 ++ comI i ++ joinB (r.map comI)).length = _
    rw [List.length_append, List.length_append, highB_length, comI_length, ih, List.length_cons]
    omega
theorem elems_rows {S : List Nat} {w0 w : World} {L : List Res} {its : List (List UInt8 × List UInt8)} {es : List (List UInt8 × (Option Addr × Nat))} {y : Option Addr × Nat} (he : es.map Prod.fst = its.map comI)
    (H : St S w0 L w) (k : Nat) (hk : L[k]? = some (.row 45 1 (.slice y.1 its.length y.2) its.length (elemsV es))) (hm : ∀ e ∈ es, rowR e.1 e.2 ∈ L) : RowsAt w (.slice y.1 its.length y.2) (its.map comI) := by
  have hl : es.length = its.length := by have := congrArg List.length he; simpa using this
  obtain ⟨A, c, e, hc, hcm, hs⟩ := row_sl H k hk
  cases e
  refine ⟨y.1, y.2, elemsV es, by rw [List.length_map], by rw [List.length_map]; exact hc, hs, by rw [List.length_map, List.length_map]; exact hl, ?_⟩
  intro i u l hu hl2
  rw [List.getElem?_map] at hu
  rw [← he, List.getElem?_map] at hl2
  cases hi : es[i]? with
  | none => rw [hi] at hu; simp at hu
  | some x =>
    rw [hi] at hu hl2
    simp only [Option.map_some, Option.some.injEq] at hu hl2
    subst hu hl2
    have hx := List.mem_of_getElem? hi
    have hl32 : x.1.length = 32 := by
      have h3 : x.1 ∈ es.map Prod.fst := List.mem_map.2 ⟨x, hx, rfl⟩
      rw [he] at h3
      obtain ⟨j, _, hj⟩ := List.mem_map.1 h3
      rw [← hj]; exact comI_length j
    have hrow : Res.ok w (rowR x.1 x.2) := H.ok _ (hm x hx)
    obtain ⟨A', c', e', hc', _, hs'⟩ := Row.slice hrow
    cases e'
    exact ⟨x.2.1, x.2.2, by rw [hl32], by rw [hl32]; exact hc', hs'⟩
theorem zB96_eq : bys (List.replicate 32 0) ++ bys (List.replicate 32 0) ++ bys (List.replicate 32 0) = bys zB96 := by
  rw [← bys_append, ← bys_append]
  congr 1
set_option maxHeartbeats 2000000 in
theorem gather_calls {w0 : World} {K : List Res} {F : FuncId} {fnF : Func} {caps : List Value} {its : List (List UInt8 × List UInt8)} (hF : Try.prog.funcs[F]? = some fnF) (hFb : fnF.body.isSome = true) (hFn : (fnF.name == "runtime.NumGoroutine") = false)
    (hG : gathers F caps K w0 its) (hn : its.length ≤ 100) (w : World) (H : St [] w0 K w) :
    Calls Try.prog 15 #[.func (.func F) #[] caps.toArray] w fun e w' => e = .returned (.tuple #[.agg (bys (agK its)).toArray, vN (badL its)]) ∧ St [] w0 K w' := by
  have lz : (bys (List.replicate 32 0)).length = 32 := by rw [bys_length, List.length_replicate]
  have lag : (bys (agK its)).length = 32 := by rw [bys_length]; exact agK_length its
  have hdc := fun A c w hA hc => draw_calls (List.replicate 32 0) (joinB (its.map comI)) A (36 * its.length) c (by simp) (joinB_coms its).symm (by rw [joinB_coms]; omega) w hA hc
  have hjl := joinB_coms its
  have hml := macB_length (List.replicate 32 0) (joinB (its.map comI))
  have hk0 : badL its = 0 → agK its = macB (List.replicate 32 0) (joinB (its.map comI)) := fun h => if_pos h
  have hk1 : ¬ badL its = 0 → agK its = List.replicate 32 0 := fun h => if_neg h
  obtain ⟨mk, hmk⟩ : ∃ m, macB (List.replicate 32 0) (joinB (its.map comI)) = m := ⟨_, rfl⟩
  rw [hmk] at hdc hml hk0
  obtain ⟨ag, hag⟩ : ∃ m, agK its = m := ⟨_, rfl⟩
  rw [hag] at hk0 hk1 lag ⊢
  obtain ⟨bd, hbd⟩ : ∃ m, badL its = m := ⟨_, rfl⟩
  unfold gathers at hG
  rw [hbd] at hG hk0 hk1 ⊢
  have lbm : (bys mk).length = 32 := by rw [bys_length]; exact hml
  refine enter (n := 19) (R := fun e M => e = .returned (.tuple #[.agg (bys ag).toArray, vN bd]) ∧ ∀ w', St [] w0 M w' → St [] w0 K w') [.func (.func F) #[] caps.toArray] Try.func15 rfl rfl rfl H ?_ (fun e w' L' h H => ⟨h.1, h.2 w' H⟩)
  refine VC_seq ?_
  refine VC_region ?_
  refine l_allocA zr23 rfl ?_
  intro b2
  refine vl_v (q_assign rfl) rfl ?_
  refine vl_nil ?_
  refine (th_n ?_)
  refine VC_seq ?_
  refine VC_region ?_
  refine l_alloc1 zr51 rfl rfl ?_
  intro b4
  refine vl_nil ?_
  refine (th_n ?_)
  refine VC_seq ?_
  refine VC_region ?_
  refine l_allocA zr58 rfl ?_
  intro b5
  refine vl_nil ?_
  refine (th_n ?_)
  refine VC_seq ?_
  refine VC_region ?_
  refine l_allocA zr23 rfl ?_
  intro b6
  refine vl_nil ?_
  refine (th_n ?_)
  refine VC_seq ?_
  refine VC_region ?_
  refine l_alloc1 zr29 rfl rfl ?_
  intro b7
  refine l_store1 0 rfl rfl rfl sz29 rfl (by decide) ?_
  simp only [List.set_cons_zero, List.set_cons_succ]
  refine vl_nil ?_
  refine (th_n ?_)
  refine VC_seq ?_
  rw [zB96_eq]
  refine VC_region ?_
  refine vl_v (q_move rfl) rfl ?_
  refine vl_v (q_makeFunc rfl) rfl ?_
  refine l_clo (F := fun u N => u = .tuple #[] ∧ ∃ (y : Option Addr × Nat) (lst k : List UInt8) (es : List (List UInt8 × (Option Addr × Nat))), es.map Prod.fst = its.map comI ∧ lst.length = 96 ∧ k.length = 32 ∧ N = gCore b5 b4 b7 b6 lst y bd k its.length (elemsV es) ++ (.blk b2 23 (bys (List.replicate 32 0)) :: (elemsR es.reverse ++ K))) rfl hF hFb hFn rfl (fun w1 H1 => (hG b5 b4 b7 b6 _ w1 (by have h9 := St.pickR (R := K) 6 ((H1.addNil 45 1).perm List.perm_append_comm) (ks := [3, 4, 1, 2, 0, 5]) (by decide) (by decide) rfl rfl; exact h9)).mono (fun e w' ⟨h1, y, lst, k, es, h2, h3, h4, h5⟩ => ⟨_, _, h1, ⟨rfl, y, lst, k, es, h2, h3, h4, rfl⟩, h5⟩)) rfl ?_
  rintro _ _ ⟨rfl, y, lst, k, es, he, hl96, hk32, rfl⟩
  dsimp only [gCore, List.cons_append, List.nil_append]
  refine vl_nil ?_
  refine (th_n ?_)
  refine VC_seq ?_
  refine VC_seq ?_
  refine VC_region ?_
  refine vl_v (q_load 2 Try.underlying29 rfl rfl rfl rfl) rfl ?_
  refine vl_v (q_as (v := .bool (decide (¬ bd = 0))) (q_neq_n (q := 0) Try.underlying29 rfl rfl) (by simp)) rfl ?_
  refine vl_nil ?_
  refine (th_n ?_)
  refine VC_cond rfl (fun ht12 => ?_) (fun ht12 => ?_)
  · skip
    have ht12 := of_decide_eq_true ht12
    refine VC_seq ?_
    refine VC_frame (X := [_, _, _, _, _, _]) (fun w9 H9 => ?_)
    refine VC_drawQ 3 6 [[], [], [0], [1, 2, 0]] [[], [], [0], [0, 1, 2]] [([], [], [], [0, 1, 2, 3, 4, 5], []), ([], [], [], [0, 1, 2, 3, 4], []), ([0], [5], [], [0, 1, 2, 3, 4], [0])] [0, 1, 2, 3, 4] [0, 1, 2] rfl rfl (by kernel_rfl) ?_
    refine qp_v (fun xs gs hx => q_build (c' := bys (List.replicate 32 0)) rfl (by kernel_rfl)) ?_
    refine qp_v (fun xs gs hx => q_load 2 Try.underlying29 rfl rfl rfl rfl) ?_
    refine qp_storeA (fun xs gs hx => rfl) (fun xs gs hx => rfl) (fun xs gs hx => rfl) sz23 (fun xs gs hx => by first | with_reducible assumption | omega | exact lz) (fun xs gs hx => by first | (with_reducible first | exact bys_one _ | exact u32s_one _ | exact u64s_one _ | exact i64s_one _ | exact n64s_one _ | assumption) | exact bys_one _ | exact u32s_one _ | exact u64s_one _ | exact i64s_one _ | exact one_all rfl | (refine app_one ?_ ?_ <;> first | exact bys_one _ | exact one_all rfl | (simp; done))) (fun xs gs hx => by first | with_reducible assumption | omega | exact lz) ?_
    refine qp_end ?_
    intro xs gs hx
    obtain ⟨_, _⟩ := hx
    simp only [selI, ownsA, List.contains_cons, List.contains_nil, Nat.reduceBEq, Nat.reduceAdd, Bool.or_false, Bool.or_true, Bool.false_or, Bool.true_or, mask, nRow, nBlk, nRowT, tupAt_0, tupAt_1, List.append_assoc, List.nil_append, List.append_nil, List.cons_append, List.singleton_append]
    refine VL.keep (Sub.cons (s := 0) rfl (Sub.cons (s := 2) rfl (Sub.cons (s := 3) rfl (Sub.cons (s := 4) rfl (Sub.cons (s := 5) rfl (Sub.cons (s := 6) rfl (Sub.cons (s := 7) rfl (Sub.cons (s := 12) rfl (Sub.cons (s := 14) rfl (Sub.nil _)))))))))) ?_
    refine vl_v (q_assign rfl) rfl ?_
    refine vl_nil ?_
    refine (qn_n (th_n ?_))
    refine VC_ret ?_
    refine (th_r ?_)
    refine ⟨_, resC2 5 rfl Try.underlying23 rfl rfl rfl sz23 (by with_reducible assumption) rfl, ?_⟩
    first
    | exact ⟨by rw [hk1 ht12], fun w' H => H.sub ((List.sublist_append_right (elemsR es.reverse) K).trans (List.sublist_append_right _ _))⟩
    | (obtain rfl := Decidable.not_not.1 ht12
       exact ⟨by rw [hk0 rfl]; rfl, fun w' H => H.sub ((List.sublist_append_right (elemsR es.reverse) K).trans (List.sublist_append_right [_, _, _, _, _, _, _] _))⟩)
  · skip
    have ht12 := of_decide_eq_false ht12
    refine VC_skip ?_
    refine (th_n ?_)
    refine VC_seq ?_
    refine VC_region ?_
    refine vl_v (q_build (c' := bys (List.replicate 32 0)) rfl (by kernel_rfl)) rfl ?_
    refine vl_v (q_load 1 Try.underlying51 rfl rfl rfl rfl) rfl ?_
    refine l_callR Try.func26 rfl rfl rfl (fun w1 H1 => hjl ▸ join_calls (its.map comI) _ w1 (elems_rows he H1 4 rfl (fun e h => List.mem_append_right [_, _, _, _, _, _] (List.mem_append_left _ (List.mem_map.2 ⟨e, List.mem_reverse.2 h, rfl⟩)))) (by rw [hjl]; omega) (by rw [List.length_map]; omega)) rfl ?_
    intro A17 c17 hc17 hm17
    refine vl_v (q_callV Try.func25 rfl rfl rfl (fun w1 H1 => hdc _ _ w1 (Reads.row 0 rfl w1 H1) (by omega))) rfl ?_
    refine l_storeA 6 rfl rfl rfl sz23 (by with_reducible assumption) (by with_reducible first | exact bys_one _ | exact u32s_one _ | exact u64s_one _ | exact i64s_one _ | exact n64s_one _ | assumption) (by with_reducible assumption) ?_
    simp only [List.set_cons_zero, List.set_cons_succ]
    refine vl_v (q_assign rfl) rfl ?_
    refine vl_nil ?_
    refine (th_n ?_)
    refine VC_ret ?_
    refine ⟨_, resC2 6 rfl Try.underlying23 rfl rfl rfl sz23 (by with_reducible assumption) rfl, ?_⟩
    first
    | exact ⟨by rw [hk1 ht12], fun w' H => H.sub ((List.sublist_append_right (elemsR es.reverse) K).trans (List.sublist_append_right _ _))⟩
    | (obtain rfl := Decidable.not_not.1 ht12
       exact ⟨by rw [hk0 rfl]; rfl, fun w' H => H.sub ((List.sublist_append_right (elemsR es.reverse) K).trans (List.sublist_append_right [_, _, _, _, _, _, _] _))⟩)
end Go.Proofs.Ytabmfndiepmcgaa
end
section
namespace Go.PBYtabmfndiepmcgaa
open Go Go.RowKit
set_option linter.unusedVariables false
/-- three of so many bytes, and a bool -/
def c3 (a b c : List UInt8) (h : Bool) : List Value := bys a ++ (bys b ++ (bys c ++ [.bool h]))
structure C3F (n : Nat) (l : List Value) (a b c : List UInt8) (h : Bool) : Prop where
  len : l.length = 3 * n + 1
  p0 : (l.drop 0).take n = bys a
  p1 : (l.drop n).take n = bys b
  p2 : (l.drop (2 * n)).take n = bys c
  p3 : l[3 * n]? = some (.bool h)
theorem c3_f {n : Nat} {a b c : List UInt8} {h : Bool} (ha : a.length = n) (hb : b.length = n) (hc : c.length = n) : C3F n (c3 a b c h) a b c h := by
  have la : (bys a).length = n := by rw [bys_length, ha]
  have lb : (bys b).length = n := by rw [bys_length, hb]
  have lc : (bys c).length = n := by rw [bys_length, hc]
  unfold c3
  refine ⟨?_, ?_, ?_, ?_, ?_⟩
  · simp only [List.length_append, la, lb, lc, List.length_cons, List.length_nil]; omega
  · rw [List.drop_zero, List.take_left' la]
  · rw [List.drop_left' la, List.take_left' lb]
  · rw [show 2 * n = n + n by omega, ← List.drop_drop, List.drop_left' la, List.drop_left' lb, List.take_left' lc]
  · rw [List.getElem?_append_right (by omega), la, List.getElem?_append_right (by omega), lb, List.getElem?_append_right (by omega), lc, show 3 * n - n - n - n = 0 by omega]
    rfl
theorem c3_one (a b c : List UInt8) (h : Bool) : ∀ u ∈ c3 a b c h, u.oneCell' = true := app_one (bys_one _) (app_one (bys_one _) (app_one (bys_one _) (one_all rfl)))
end Go.PBYtabmfndiepmcgaa
end
section
namespace Go.Proofs.Ytabmfndiepmcgaa
open Go.RowKit Go.PBYtabmfndiepmcgaa
set_option linter.unusedVariables false
set_option linter.unusedSimpArgs false
set_option maxRecDepth 10000
theorem fold3 {α β : Type} (f : β → α → β) (a : β) (l : List α) (x y z : α) (h : l = [x, y, z]) : List.foldl f a l = f (f (f a x) y) z := by subst h; rfl
theorem fold4 {α β : Type} (f : β → α → β) (a : β) (l : List α) (x y z u : α) (h : l = [x, y, z, u]) : List.foldl f a l = f (f (f (f a x) y) z) u := by subst h; rfl
set_option maxHeartbeats 2000000 in
theorem begin_true {w0 : World} (b3 b4 b5 b6 : Nat) (id fr i s c : List UInt8) (hid : id.length = 64) (hfr : fr.length = 64) (hi : i.length = 32) (hs : s.length = 32) (hc : c.length = 32) : gathers 16 [vP b3 0, vP b5 0, vP b4 0] [.blk b6 23 (bys (List.replicate 32 0)), .blk b5 27 (c3 i s c true), .blk b4 25 (bys fr), .blk b3 25 (bys id)] w0 [(id, s), (fr, i), (fr, s), (fr, c)] := by
  intro bl br be bk m1 w H
  have o1 : okI (id, s) := ⟨hid, hs⟩
  have o2 : okI (fr, i) := ⟨hfr, hi⟩
  have o3 : okI (fr, s) := ⟨hfr, hs⟩
  have o4 : okI (fr, c) := ⟨hfr, hc⟩
  have v2 := inv_next (b := 0) (n := 1) o1 o2
  have v3 := inv_next (b := (badN (comI (id, s)) 0)) (n := 2) o2 o3
  have v4 := inv_next (b := (badN (comI (fr, i)) (badN (comI (id, s)) 0))) (n := 3) o3 o4
  have hbd : badL [(id, s), (fr, i), (fr, s), (fr, c)] = badN (comI (fr, c)) (badN (comI (fr, s)) (badN (comI (fr, i)) (badN (comI (id, s)) 0))) := fold4 _ _ _ _ _ _ _ rfl
  have hmap : [(id, s), (fr, i), (fr, s), (fr, c)].map comI = [comI (id, s), comI (fr, i), comI (fr, s), comI (fr, c)] := by simp only [List.map_cons, List.map_nil]
  have cc1 : comB (id.take 32) s = comI (id, s) := by simp only [comI]
  have l1 := comI_length (id, s)
  have cc2 : comB (fr.take 32) i = comI (fr, i) := by simp only [comI]
  have l2 := comI_length (fr, i)
  have cc3 : comB (fr.take 32) s = comI (fr, s) := by simp only [comI]
  have l3 := comI_length (fr, s)
  have cc4 : comB (fr.take 32) c = comI (fr, c) := by simp only [comI]
  have l4 := comI_length (fr, c)
  obtain ⟨r1, e1⟩ : ∃ r, comI (id, s) = r := ⟨_, rfl⟩
  rw [e1] at cc1 l1 v2 v3 v4 hbd hmap
  obtain ⟨r2, e2⟩ : ∃ r, comI (fr, i) = r := ⟨_, rfl⟩
  rw [e2] at cc2 l2 v2 v3 v4 hbd hmap
  obtain ⟨r3, e3⟩ : ∃ r, comI (fr, s) = r := ⟨_, rfl⟩
  rw [e3] at cc3 l3 v3 v4 hbd hmap
  obtain ⟨r4, e4⟩ : ∃ r, comI (fr, c) = r := ⟨_, rfl⟩
  rw [e4] at cc4 l4 v4 hbd hmap
  rw [hbd, hmap]
  have lbc : (bys c).length = 32 := by rw [bys_length]; exact hc
  have lbfr : (bys fr).length = 64 := by rw [bys_length]; exact hfr
  have lbi : (bys i).length = 32 := by rw [bys_length]; exact hi
  have lbid : (bys id).length = 64 := by rw [bys_length]; exact hid
  have lbs : (bys s).length = 32 := by rw [bys_length]; exact hs
  have hF := c3_f (n := 32) (h := true) hi hs hc
  obtain ⟨h0, p0, p1, p2, p3⟩ := hF
  have lbc : (bys c).length = 32 := by rw [bys_length]; exact hc
  refine enter (n := 27) (R := fun e M => e = .returned (.tuple #[]) ∧ ∀ w', St [] w0 M w' → ∃ (y : Option Addr × Nat) (lst k : List UInt8) (es : List (List UInt8 × (Option Addr × Nat))), es.map Prod.fst = [r1, r2, r3, r4] ∧ lst.length = 96 ∧ k.length = 32 ∧ St [] w0 (gCore bl br be bk lst y (badN (r4) (badN (r3) (badN (r2) (badN (r1) 0)))) k [(id, s), (fr, i), (fr, s), (fr, c)].length (elemsV es) ++ (m1 :: (elemsR es.reverse ++ [.blk b6 23 (bys (List.replicate 32 0)), .blk b5 27 (c3 i s c true), .blk b4 25 (bys fr), .blk b3 25 (bys id)]))) w') [haveV bl br be bk, vP b3 0, vP b5 0, vP b4 0] Try.func16 rfl rfl rfl H ?_ (fun e w' L' h H => ⟨h.1, h.2 w' H⟩)
  refine VC_seq ?_
  refine VC_region ?_
  refine vl_v (q_move rfl) rfl ?_
  refine vl_v (q_loads 9 Try.underlying25 rfl rfl rfl sz25 (by with_reducible assumption)) rfl ?_
  refine vl_v (q_fldA fo27_1 (by decide) rfl rfl) rfl ?_
  refine vl_v (q_loadsAt 7 Try.underlying23 rfl rfl rfl sz23 p1 lbs) rfl ?_
  refine l_clo (F := fun u N => u = .tuple #[] ∧ ∃ (y x : Option Addr × Nat), N = gCore bl br be bk (id ++ s) y (badN r1 0) r1 (0 + 1) ([] ++ [.slice x.1 32 x.2]) ++ (rowR r1 x :: m1 :: [.blk b6 23 (bys (List.replicate 32 0)), .blk b5 27 (c3 i s c true), .blk b4 25 (bys fr), .blk b3 25 (bys id)])) rfl Try.func23 rfl rfl rfl (fun w1 H1 => (have_calls bl br be bk id s zB96 (List.replicate 32 0) r1 (none, 0) 0 0 [] hid hs (by simp) (by simp) cc1 (fun _ h => absurd h (by omega)) (by omega) w1 H1).mono (fun e w' ⟨h1, y, x, h2⟩ => ⟨_, _, h1, ⟨rfl, y, x, rfl⟩, h2⟩)) rfl ?_
  rintro _ _ ⟨rfl, y1, x1, rfl⟩
  dsimp only [gCore, List.cons_append, List.nil_append]
  refine vl_nil ?_
  refine (th_n ?_)
  refine VC_seq ?_
  refine VC_region ?_
  refine vl_v (q_move rfl) rfl ?_
  refine vl_v (q_loads 9 Try.underlying25 rfl rfl rfl sz25 (by with_reducible assumption)) rfl ?_
  refine vl_v (q_fldA fo27_0 (by decide) rfl rfl) rfl ?_
  refine vl_v (q_loadsAt 8 Try.underlying23 rfl rfl rfl sz23 p0 lbi) rfl ?_
  refine l_clo (F := fun u N => u = .tuple #[] ∧ ∃ (y x : Option Addr × Nat), N = gCore bl br be bk (fr ++ i) y (badN r2 (badN r1 0)) r2 (1 + 1) ([.slice x1.1 32 x1.2] ++ [.slice x.1 32 x.2]) ++ (rowR r2 x :: rowR r1 x1 :: m1 :: [.blk b6 23 (bys (List.replicate 32 0)), .blk b5 27 (c3 i s c true), .blk b4 25 (bys fr), .blk b3 25 (bys id)])) rfl Try.func23 rfl rfl rfl (fun w1 H1 => (have_calls bl br be bk fr i (id ++ s) r1 r2 y1 (badN r1 0) 1 [.slice x1.1 32 x1.2] hfr hi (by rw [List.length_append, hid, hs]) l1 cc2 v2 (by omega) w1 H1).mono (fun e w' ⟨h1, y, x, h2⟩ => ⟨_, _, h1, ⟨rfl, y, x, rfl⟩, h2⟩)) rfl ?_
  rintro _ _ ⟨rfl, y2, x2, rfl⟩
  dsimp only [gCore, List.cons_append, List.nil_append]
  refine vl_nil ?_
  refine (th_n ?_)
  refine VC_seq ?_
  refine VC_region ?_
  refine vl_v (q_move rfl) rfl ?_
  refine vl_v (q_loads 10 Try.underlying25 rfl rfl rfl sz25 (by with_reducible assumption)) rfl ?_
  refine vl_v (q_fldA fo27_1 (by decide) rfl rfl) rfl ?_
  refine vl_v (q_loadsAt 9 Try.underlying23 rfl rfl rfl sz23 p1 lbs) rfl ?_
  refine l_clo (F := fun u N => u = .tuple #[] ∧ ∃ (y x : Option Addr × Nat), N = gCore bl br be bk (fr ++ s) y (badN r3 (badN r2 (badN r1 0))) r3 (2 + 1) (([.slice x1.1 32 x1.2] ++ [.slice x2.1 32 x2.2]) ++ [.slice x.1 32 x.2]) ++ (rowR r3 x :: rowR r2 x2 :: rowR r1 x1 :: m1 :: [.blk b6 23 (bys (List.replicate 32 0)), .blk b5 27 (c3 i s c true), .blk b4 25 (bys fr), .blk b3 25 (bys id)])) rfl Try.func23 rfl rfl rfl (fun w1 H1 => (have_calls bl br be bk fr s (fr ++ i) r2 r3 y2 (badN r2 (badN r1 0)) 2 ([.slice x1.1 32 x1.2] ++ [.slice x2.1 32 x2.2]) hfr hs (by rw [List.length_append, hfr, hi]) l2 cc3 v3 (by omega) w1 H1).mono (fun e w' ⟨h1, y, x, h2⟩ => ⟨_, _, h1, ⟨rfl, y, x, rfl⟩, h2⟩)) rfl ?_
  rintro _ _ ⟨rfl, y3, x3, rfl⟩
  dsimp only [gCore, List.cons_append, List.nil_append]
  refine vl_nil ?_
  refine (th_n ?_)
  refine VC_seq ?_
  refine VC_region ?_
  refine vl_v (q_fldA fo27_3 (by decide) rfl rfl) rfl ?_
  refine vl_v (q_load 10 Try.underlying4 rfl rfl rfl p3) rfl ?_
  refine vl_nil ?_
  refine (th_n ?_)
  refine VC_yes (rfl) ?_
  refine VC_region ?_
  refine vl_v (q_move rfl) rfl ?_
  refine vl_v (q_loads 11 Try.underlying25 rfl rfl rfl sz25 (by with_reducible assumption)) rfl ?_
  refine vl_v (q_fldA fo27_2 (by decide) rfl rfl) rfl ?_
  refine vl_v (q_loadsAt 10 Try.underlying23 rfl rfl rfl sz23 p2 lbc) rfl ?_
  refine l_clo (F := fun u N => u = .tuple #[] ∧ ∃ (y x : Option Addr × Nat), N = gCore bl br be bk (fr ++ c) y (badN r4 (badN r3 (badN r2 (badN r1 0)))) r4 (3 + 1) ((([.slice x1.1 32 x1.2] ++ [.slice x2.1 32 x2.2]) ++ [.slice x3.1 32 x3.2]) ++ [.slice x.1 32 x.2]) ++ (rowR r4 x :: rowR r3 x3 :: rowR r2 x2 :: rowR r1 x1 :: m1 :: [.blk b6 23 (bys (List.replicate 32 0)), .blk b5 27 (c3 i s c true), .blk b4 25 (bys fr), .blk b3 25 (bys id)])) rfl Try.func23 rfl rfl rfl (fun w1 H1 => (have_calls bl br be bk fr c (fr ++ s) r3 r4 y3 (badN r3 (badN r2 (badN r1 0))) 3 (([.slice x1.1 32 x1.2] ++ [.slice x2.1 32 x2.2]) ++ [.slice x3.1 32 x3.2]) hfr hc (by rw [List.length_append, hfr, hs]) l3 cc4 v4 (by omega) w1 H1).mono (fun e w' ⟨h1, y, x, h2⟩ => ⟨_, _, h1, ⟨rfl, y, x, rfl⟩, h2⟩)) rfl ?_
  rintro _ _ ⟨rfl, y4, x4, rfl⟩
  dsimp only [gCore, List.cons_append, List.nil_append]
  refine vl_nil ?_
  refine ⟨_, res0 rfl, ?_⟩
  exact ⟨rfl, fun w' H => ⟨y4, _, _, [(r1, x1), (r2, x2), (r3, x3), (r4, x4)], rfl, (by rw [List.length_append, hfr, hc]), l4, H.pick (ks := [0, 1, 2, 3, 4, 9, 5, 6, 7, 8, 10, 11, 12, 13]) (by decide) rfl⟩⟩
set_option maxHeartbeats 2000000 in
theorem answer_true {w0 : World} (b3 b4 b5 b6 : Nat) (id fr i s c : List UInt8) (hid : id.length = 32) (hfr : fr.length = 32) (hi : i.length = 64) (hs : s.length = 64) (hc : c.length = 64) : gathers 17 [vP b3 0, vP b4 0, vP b5 0] [.blk b6 23 (bys (List.replicate 32 0)), .blk b5 23 (bys fr), .blk b4 23 (bys id), .blk b3 34 (c3 i s c true)] w0 [(s, id), (i, fr), (s, fr), (c, fr)] := by
  intro bl br be bk m1 w H
  have o1 : okI (s, id) := ⟨hs, hid⟩
  have o2 : okI (i, fr) := ⟨hi, hfr⟩
  have o3 : okI (s, fr) := ⟨hs, hfr⟩
  have o4 : okI (c, fr) := ⟨hc, hfr⟩
  have v2 := inv_next (b := 0) (n := 1) o1 o2
  have v3 := inv_next (b := (badN (comI (s, id)) 0)) (n := 2) o2 o3
  have v4 := inv_next (b := (badN (comI (i, fr)) (badN (comI (s, id)) 0))) (n := 3) o3 o4
  have hbd : badL [(s, id), (i, fr), (s, fr), (c, fr)] = badN (comI (c, fr)) (badN (comI (s, fr)) (badN (comI (i, fr)) (badN (comI (s, id)) 0))) := fold4 _ _ _ _ _ _ _ rfl
  have hmap : [(s, id), (i, fr), (s, fr), (c, fr)].map comI = [comI (s, id), comI (i, fr), comI (s, fr), comI (c, fr)] := by simp only [List.map_cons, List.map_nil]
  have cc1 : comB (s.take 32) id = comI (s, id) := by simp only [comI]
  have l1 := comI_length (s, id)
  have cc2 : comB (i.take 32) fr = comI (i, fr) := by simp only [comI]
  have l2 := comI_length (i, fr)
  have cc3 : comB (s.take 32) fr = comI (s, fr) := by simp only [comI]
  have l3 := comI_length (s, fr)
  have cc4 : comB (c.take 32) fr = comI (c, fr) := by simp only [comI]
  have l4 := comI_length (c, fr)
  obtain ⟨r1, e1⟩ : ∃ r, comI (s, id) = r := ⟨_, rfl⟩
  rw [e1] at cc1 l1 v2 v3 v4 hbd hmap
  obtain ⟨r2, e2⟩ : ∃ r, comI (i, fr) = r := ⟨_, rfl⟩
  rw [e2] at cc2 l2 v2 v3 v4 hbd hmap
  obtain ⟨r3, e3⟩ : ∃ r, comI (s, fr) = r := ⟨_, rfl⟩
  rw [e3] at cc3 l3 v3 v4 hbd hmap
  obtain ⟨r4, e4⟩ : ∃ r, comI (c, fr) = r := ⟨_, rfl⟩
  rw [e4] at cc4 l4 v4 hbd hmap
  rw [hbd, hmap]
  have lbc : (bys c).length = 64 := by rw [bys_length]; exact hc
  have lbfr : (bys fr).length = 32 := by rw [bys_length]; exact hfr
  have lbi : (bys i).length = 64 := by rw [bys_length]; exact hi
  have lbid : (bys id).length = 32 := by rw [bys_length]; exact hid
  have lbs : (bys s).length = 64 := by rw [bys_length]; exact hs
  have hF := c3_f (n := 64) (h := true) hi hs hc
  obtain ⟨h0, p0, p1, p2, p3⟩ := hF
  have lbc : (bys c).length = 64 := by rw [bys_length]; exact hc
  refine enter (n := 27) (R := fun e M => e = .returned (.tuple #[]) ∧ ∀ w', St [] w0 M w' → ∃ (y : Option Addr × Nat) (lst k : List UInt8) (es : List (List UInt8 × (Option Addr × Nat))), es.map Prod.fst = [r1, r2, r3, r4] ∧ lst.length = 96 ∧ k.length = 32 ∧ St [] w0 (gCore bl br be bk lst y (badN (r4) (badN (r3) (badN (r2) (badN (r1) 0)))) k [(s, id), (i, fr), (s, fr), (c, fr)].length (elemsV es) ++ (m1 :: (elemsR es.reverse ++ [.blk b6 23 (bys (List.replicate 32 0)), .blk b5 23 (bys fr), .blk b4 23 (bys id), .blk b3 34 (c3 i s c true)]))) w') [haveV bl br be bk, vP b3 0, vP b4 0, vP b5 0] Try.func17 rfl rfl rfl H ?_ (fun e w' L' h H => ⟨h.1, h.2 w' H⟩)
  refine VC_seq ?_
  refine VC_region ?_
  refine vl_v (q_move rfl) rfl ?_
  refine vl_v (q_fldA fo34_1 (by decide) rfl rfl) rfl ?_
  refine vl_v (q_loadsAt 9 Try.underlying25 rfl rfl rfl sz25 p1 lbs) rfl ?_
  refine vl_v (q_loads 8 Try.underlying23 rfl rfl rfl sz23 (by with_reducible assumption)) rfl ?_
  refine l_clo (F := fun u N => u = .tuple #[] ∧ ∃ (y x : Option Addr × Nat), N = gCore bl br be bk (s ++ id) y (badN r1 0) r1 (0 + 1) ([] ++ [.slice x.1 32 x.2]) ++ (rowR r1 x :: m1 :: [.blk b6 23 (bys (List.replicate 32 0)), .blk b5 23 (bys fr), .blk b4 23 (bys id), .blk b3 34 (c3 i s c true)])) rfl Try.func23 rfl rfl rfl (fun w1 H1 => (have_calls bl br be bk s id zB96 (List.replicate 32 0) r1 (none, 0) 0 0 [] hs hid (by simp) (by simp) cc1 (fun _ h => absurd h (by omega)) (by omega) w1 H1).mono (fun e w' ⟨h1, y, x, h2⟩ => ⟨_, _, h1, ⟨rfl, y, x, rfl⟩, h2⟩)) rfl ?_
  rintro _ _ ⟨rfl, y1, x1, rfl⟩
  dsimp only [gCore, List.cons_append, List.nil_append]
  refine vl_nil ?_
  refine (th_n ?_)
  refine VC_seq ?_
  refine VC_region ?_
  refine vl_v (q_move rfl) rfl ?_
  refine vl_v (q_fldA fo34_0 (by decide) rfl rfl) rfl ?_
  refine vl_v (q_loadsAt 10 Try.underlying25 rfl rfl rfl sz25 p0 lbi) rfl ?_
  refine vl_v (q_loads 8 Try.underlying23 rfl rfl rfl sz23 (by with_reducible assumption)) rfl ?_
  refine l_clo (F := fun u N => u = .tuple #[] ∧ ∃ (y x : Option Addr × Nat), N = gCore bl br be bk (i ++ fr) y (badN r2 (badN r1 0)) r2 (1 + 1) ([.slice x1.1 32 x1.2] ++ [.slice x.1 32 x.2]) ++ (rowR r2 x :: rowR r1 x1 :: m1 :: [.blk b6 23 (bys (List.replicate 32 0)), .blk b5 23 (bys fr), .blk b4 23 (bys id), .blk b3 34 (c3 i s c true)])) rfl Try.func23 rfl rfl rfl (fun w1 H1 => (have_calls bl br be bk i fr (s ++ id) r1 r2 y1 (badN r1 0) 1 [.slice x1.1 32 x1.2] hi hfr (by rw [List.length_append, hs, hid]) l1 cc2 v2 (by omega) w1 H1).mono (fun e w' ⟨h1, y, x, h2⟩ => ⟨_, _, h1, ⟨rfl, y, x, rfl⟩, h2⟩)) rfl ?_
  rintro _ _ ⟨rfl, y2, x2, rfl⟩
  dsimp only [gCore, List.cons_append, List.nil_append]
  refine vl_nil ?_
  refine (th_n ?_)
  refine VC_seq ?_
  refine VC_region ?_
  refine vl_v (q_move rfl) rfl ?_
  refine vl_v (q_fldA fo34_1 (by decide) rfl rfl) rfl ?_
  refine vl_v (q_loadsAt 11 Try.underlying25 rfl rfl rfl sz25 p1 lbs) rfl ?_
  refine vl_v (q_loads 9 Try.underlying23 rfl rfl rfl sz23 (by with_reducible assumption)) rfl ?_
  refine l_clo (F := fun u N => u = .tuple #[] ∧ ∃ (y x : Option Addr × Nat), N = gCore bl br be bk (s ++ fr) y (badN r3 (badN r2 (badN r1 0))) r3 (2 + 1) (([.slice x1.1 32 x1.2] ++ [.slice x2.1 32 x2.2]) ++ [.slice x.1 32 x.2]) ++ (rowR r3 x :: rowR r2 x2 :: rowR r1 x1 :: m1 :: [.blk b6 23 (bys (List.replicate 32 0)), .blk b5 23 (bys fr), .blk b4 23 (bys id), .blk b3 34 (c3 i s c true)])) rfl Try.func23 rfl rfl rfl (fun w1 H1 => (have_calls bl br be bk s fr (i ++ fr) r2 r3 y2 (badN r2 (badN r1 0)) 2 ([.slice x1.1 32 x1.2] ++ [.slice x2.1 32 x2.2]) hs hfr (by rw [List.length_append, hi, hfr]) l2 cc3 v3 (by omega) w1 H1).mono (fun e w' ⟨h1, y, x, h2⟩ => ⟨_, _, h1, ⟨rfl, y, x, rfl⟩, h2⟩)) rfl ?_
  rintro _ _ ⟨rfl, y3, x3, rfl⟩
  dsimp only [gCore, List.cons_append, List.nil_append]
  refine vl_nil ?_
  refine (th_n ?_)
  refine VC_seq ?_
  refine VC_region ?_
  refine vl_v (q_fldA fo34_3 (by decide) rfl rfl) rfl ?_
  refine vl_v (q_load 12 Try.underlying4 rfl rfl rfl p3) rfl ?_
  refine vl_nil ?_
  refine (th_n ?_)
  refine VC_yes (rfl) ?_
  refine VC_region ?_
  refine vl_v (q_move rfl) rfl ?_
  refine vl_v (q_fldA fo34_2 (by decide) rfl rfl) rfl ?_
  refine vl_v (q_loadsAt 12 Try.underlying25 rfl rfl rfl sz25 p2 lbc) rfl ?_
  refine vl_v (q_loads 10 Try.underlying23 rfl rfl rfl sz23 (by with_reducible assumption)) rfl ?_
  refine l_clo (F := fun u N => u = .tuple #[] ∧ ∃ (y x : Option Addr × Nat), N = gCore bl br be bk (c ++ fr) y (badN r4 (badN r3 (badN r2 (badN r1 0)))) r4 (3 + 1) ((([.slice x1.1 32 x1.2] ++ [.slice x2.1 32 x2.2]) ++ [.slice x3.1 32 x3.2]) ++ [.slice x.1 32 x.2]) ++ (rowR r4 x :: rowR r3 x3 :: rowR r2 x2 :: rowR r1 x1 :: m1 :: [.blk b6 23 (bys (List.replicate 32 0)), .blk b5 23 (bys fr), .blk b4 23 (bys id), .blk b3 34 (c3 i s c true)])) rfl Try.func23 rfl rfl rfl (fun w1 H1 => (have_calls bl br be bk c fr (s ++ fr) r3 r4 y3 (badN r3 (badN r2 (badN r1 0))) 3 (([.slice x1.1 32 x1.2] ++ [.slice x2.1 32 x2.2]) ++ [.slice x3.1 32 x3.2]) hc hfr (by rw [List.length_append, hs, hfr]) l3 cc4 v4 (by omega) w1 H1).mono (fun e w' ⟨h1, y, x, h2⟩ => ⟨_, _, h1, ⟨rfl, y, x, rfl⟩, h2⟩)) rfl ?_
  rintro _ _ ⟨rfl, y4, x4, rfl⟩
  dsimp only [gCore, List.cons_append, List.nil_append]
  refine vl_nil ?_
  refine ⟨_, res0 rfl, ?_⟩
  exact ⟨rfl, fun w' H => ⟨y4, _, _, [(r1, x1), (r2, x2), (r3, x3), (r4, x4)], rfl, (by rw [List.length_append, hc, hfr]), l4, H.pick (ks := [0, 1, 2, 3, 4, 9, 5, 6, 7, 8, 10, 11, 12, 13]) (by decide) rfl⟩⟩
set_option maxHeartbeats 2000000 in
theorem begin_false {w0 : World} (b3 b4 b5 b6 : Nat) (id fr i s c : List UInt8) (hid : id.length = 64) (hfr : fr.length = 64) (hi : i.length = 32) (hs : s.length = 32) (hc : c.length = 32) : gathers 16 [vP b3 0, vP b5 0, vP b4 0] [.blk b6 23 (bys (List.replicate 32 0)), .blk b5 27 (c3 i s c false), .blk b4 25 (bys fr), .blk b3 25 (bys id)] w0 [(id, s), (fr, i), (fr, s)] := by
  intro bl br be bk m1 w H
  have o1 : okI (id, s) := ⟨hid, hs⟩
  have o2 : okI (fr, i) := ⟨hfr, hi⟩
  have o3 : okI (fr, s) := ⟨hfr, hs⟩
  have v2 := inv_next (b := 0) (n := 1) o1 o2
  have v3 := inv_next (b := (badN (comI (id, s)) 0)) (n := 2) o2 o3
  have hbd : badL [(id, s), (fr, i), (fr, s)] = badN (comI (fr, s)) (badN (comI (fr, i)) (badN (comI (id, s)) 0)) := fold3 _ _ _ _ _ _ rfl
  have hmap : [(id, s), (fr, i), (fr, s)].map comI = [comI (id, s), comI (fr, i), comI (fr, s)] := by simp only [List.map_cons, List.map_nil]
  have cc1 : comB (id.take 32) s = comI (id, s) := by simp only [comI]
  have l1 := comI_length (id, s)
  have cc2 : comB (fr.take 32) i = comI (fr, i) := by simp only [comI]
  have l2 := comI_length (fr, i)
  have cc3 : comB (fr.take 32) s = comI (fr, s) := by simp only [comI]
  have l3 := comI_length (fr, s)
  obtain ⟨r1, e1⟩ : ∃ r, comI (id, s) = r := ⟨_, rfl⟩
  rw [e1] at cc1 l1 v2 v3 hbd hmap
  obtain ⟨r2, e2⟩ : ∃ r, comI (fr, i) = r := ⟨_, rfl⟩
  rw [e2] at cc2 l2 v2 v3 hbd hmap
  obtain ⟨r3, e3⟩ : ∃ r, comI (fr, s) = r := ⟨_, rfl⟩
  rw [e3] at cc3 l3 v3 hbd hmap
  rw [hbd, hmap]
  have lbfr : (bys fr).length = 64 := by rw [bys_length]; exact hfr
  have lbi : (bys i).length = 32 := by rw [bys_length]; exact hi
  have lbid : (bys id).length = 64 := by rw [bys_length]; exact hid
  have lbs : (bys s).length = 32 := by rw [bys_length]; exact hs
  have hF := c3_f (n := 32) (h := false) hi hs hc
  obtain ⟨h0, p0, p1, p2, p3⟩ := hF
  have lbc : (bys c).length = 32 := by rw [bys_length]; exact hc
  refine enter (n := 27) (R := fun e M => e = .returned (.tuple #[]) ∧ ∀ w', St [] w0 M w' → ∃ (y : Option Addr × Nat) (lst k : List UInt8) (es : List (List UInt8 × (Option Addr × Nat))), es.map Prod.fst = [r1, r2, r3] ∧ lst.length = 96 ∧ k.length = 32 ∧ St [] w0 (gCore bl br be bk lst y (badN (r3) (badN (r2) (badN (r1) 0))) k [(id, s), (fr, i), (fr, s)].length (elemsV es) ++ (m1 :: (elemsR es.reverse ++ [.blk b6 23 (bys (List.replicate 32 0)), .blk b5 27 (c3 i s c false), .blk b4 25 (bys fr), .blk b3 25 (bys id)]))) w') [haveV bl br be bk, vP b3 0, vP b5 0, vP b4 0] Try.func16 rfl rfl rfl H ?_ (fun e w' L' h H => ⟨h.1, h.2 w' H⟩)
  refine VC_seq ?_
  refine VC_region ?_
  refine vl_v (q_move rfl) rfl ?_
  refine vl_v (q_loads 9 Try.underlying25 rfl rfl rfl sz25 (by with_reducible assumption)) rfl ?_
  refine vl_v (q_fldA fo27_1 (by decide) rfl rfl) rfl ?_
  refine vl_v (q_loadsAt 7 Try.underlying23 rfl rfl rfl sz23 p1 lbs) rfl ?_
  refine l_clo (F := fun u N => u = .tuple #[] ∧ ∃ (y x : Option Addr × Nat), N = gCore bl br be bk (id ++ s) y (badN r1 0) r1 (0 + 1) ([] ++ [.slice x.1 32 x.2]) ++ (rowR r1 x :: m1 :: [.blk b6 23 (bys (List.replicate 32 0)), .blk b5 27 (c3 i s c false), .blk b4 25 (bys fr), .blk b3 25 (bys id)])) rfl Try.func23 rfl rfl rfl (fun w1 H1 => (have_calls bl br be bk id s zB96 (List.replicate 32 0) r1 (none, 0) 0 0 [] hid hs (by simp) (by simp) cc1 (fun _ h => absurd h (by omega)) (by omega) w1 H1).mono (fun e w' ⟨h1, y, x, h2⟩ => ⟨_, _, h1, ⟨rfl, y, x, rfl⟩, h2⟩)) rfl ?_
  rintro _ _ ⟨rfl, y1, x1, rfl⟩
  dsimp only [gCore, List.cons_append, List.nil_append]
  refine vl_nil ?_
  refine (th_n ?_)
  refine VC_seq ?_
  refine VC_region ?_
  refine vl_v (q_move rfl) rfl ?_
  refine vl_v (q_loads 9 Try.underlying25 rfl rfl rfl sz25 (by with_reducible assumption)) rfl ?_
  refine vl_v (q_fldA fo27_0 (by decide) rfl rfl) rfl ?_
  refine vl_v (q_loadsAt 8 Try.underlying23 rfl rfl rfl sz23 p0 lbi) rfl ?_
  refine l_clo (F := fun u N => u = .tuple #[] ∧ ∃ (y x : Option Addr × Nat), N = gCore bl br be bk (fr ++ i) y (badN r2 (badN r1 0)) r2 (1 + 1) ([.slice x1.1 32 x1.2] ++ [.slice x.1 32 x.2]) ++ (rowR r2 x :: rowR r1 x1 :: m1 :: [.blk b6 23 (bys (List.replicate 32 0)), .blk b5 27 (c3 i s c false), .blk b4 25 (bys fr), .blk b3 25 (bys id)])) rfl Try.func23 rfl rfl rfl (fun w1 H1 => (have_calls bl br be bk fr i (id ++ s) r1 r2 y1 (badN r1 0) 1 [.slice x1.1 32 x1.2] hfr hi (by rw [List.length_append, hid, hs]) l1 cc2 v2 (by omega) w1 H1).mono (fun e w' ⟨h1, y, x, h2⟩ => ⟨_, _, h1, ⟨rfl, y, x, rfl⟩, h2⟩)) rfl ?_
  rintro _ _ ⟨rfl, y2, x2, rfl⟩
  dsimp only [gCore, List.cons_append, List.nil_append]
  refine vl_nil ?_
  refine (th_n ?_)
  refine VC_seq ?_
  refine VC_region ?_
  refine vl_v (q_move rfl) rfl ?_
  refine vl_v (q_loads 10 Try.underlying25 rfl rfl rfl sz25 (by with_reducible assumption)) rfl ?_
  refine vl_v (q_fldA fo27_1 (by decide) rfl rfl) rfl ?_
  refine vl_v (q_loadsAt 9 Try.underlying23 rfl rfl rfl sz23 p1 lbs) rfl ?_
  refine l_clo (F := fun u N => u = .tuple #[] ∧ ∃ (y x : Option Addr × Nat), N = gCore bl br be bk (fr ++ s) y (badN r3 (badN r2 (badN r1 0))) r3 (2 + 1) (([.slice x1.1 32 x1.2] ++ [.slice x2.1 32 x2.2]) ++ [.slice x.1 32 x.2]) ++ (rowR r3 x :: rowR r2 x2 :: rowR r1 x1 :: m1 :: [.blk b6 23 (bys (List.replicate 32 0)), .blk b5 27 (c3 i s c false), .blk b4 25 (bys fr), .blk b3 25 (bys id)])) rfl Try.func23 rfl rfl rfl (fun w1 H1 => (have_calls bl br be bk fr s (fr ++ i) r2 r3 y2 (badN r2 (badN r1 0)) 2 ([.slice x1.1 32 x1.2] ++ [.slice x2.1 32 x2.2]) hfr hs (by rw [List.length_append, hfr, hi]) l2 cc3 v3 (by omega) w1 H1).mono (fun e w' ⟨h1, y, x, h2⟩ => ⟨_, _, h1, ⟨rfl, y, x, rfl⟩, h2⟩)) rfl ?_
  rintro _ _ ⟨rfl, y3, x3, rfl⟩
  dsimp only [gCore, List.cons_append, List.nil_append]
  refine vl_nil ?_
  refine (th_n ?_)
  refine VC_seq ?_
  refine VC_region ?_
  refine vl_v (q_fldA fo27_3 (by decide) rfl rfl) rfl ?_
  refine vl_v (q_load 10 Try.underlying4 rfl rfl rfl p3) rfl ?_
  refine vl_nil ?_
  refine (th_n ?_)
  refine VC_no (rfl) ?_
  refine VC_skip ?_
  refine ⟨_, res0 rfl, ?_⟩
  exact ⟨rfl, fun w' H => ⟨y3, _, _, [(r1, x1), (r2, x2), (r3, x3)], rfl, (by rw [List.length_append, hfr, hs]), l3, H.pick (ks := [0, 1, 2, 3, 4, 8, 5, 6, 7, 9, 10, 11, 12]) (by decide) rfl⟩⟩
set_option maxHeartbeats 2000000 in
theorem answer_false {w0 : World} (b3 b4 b5 b6 : Nat) (id fr i s c : List UInt8) (hid : id.length = 32) (hfr : fr.length = 32) (hi : i.length = 64) (hs : s.length = 64) (hc : c.length = 64) : gathers 17 [vP b3 0, vP b4 0, vP b5 0] [.blk b6 23 (bys (List.replicate 32 0)), .blk b5 23 (bys fr), .blk b4 23 (bys id), .blk b3 34 (c3 i s c false)] w0 [(s, id), (i, fr), (s, fr)] := by
  intro bl br be bk m1 w H
  have o1 : okI (s, id) := ⟨hs, hid⟩
  have o2 : okI (i, fr) := ⟨hi, hfr⟩
  have o3 : okI (s, fr) := ⟨hs, hfr⟩
  have v2 := inv_next (b := 0) (n := 1) o1 o2
  have v3 := inv_next (b := (badN (comI (s, id)) 0)) (n := 2) o2 o3
  have hbd : badL [(s, id), (i, fr), (s, fr)] = badN (comI (s, fr)) (badN (comI (i, fr)) (badN (comI (s, id)) 0)) := fold3 _ _ _ _ _ _ rfl
  have hmap : [(s, id), (i, fr), (s, fr)].map comI = [comI (s, id), comI (i, fr), comI (s, fr)] := by simp only [List.map_cons, List.map_nil]
  have cc1 : comB (s.take 32) id = comI (s, id) := by simp only [comI]
  have l1 := comI_length (s, id)
  have cc2 : comB (i.take 32) fr = comI (i, fr) := by simp only [comI]
  have l2 := comI_length (i, fr)
  have cc3 : comB (s.take 32) fr = comI (s, fr) := by simp only [comI]
  have l3 := comI_length (s, fr)
  obtain ⟨r1, e1⟩ : ∃ r, comI (s, id) = r := ⟨_, rfl⟩
  rw [e1] at cc1 l1 v2 v3 hbd hmap
  obtain ⟨r2, e2⟩ : ∃ r, comI (i, fr) = r := ⟨_, rfl⟩
  rw [e2] at cc2 l2 v2 v3 hbd hmap
  obtain ⟨r3, e3⟩ : ∃ r, comI (s, fr) = r := ⟨_, rfl⟩
  rw [e3] at cc3 l3 v3 hbd hmap
  rw [hbd, hmap]
  have lbfr : (bys fr).length = 32 := by rw [bys_length]; exact hfr
  have lbi : (bys i).length = 64 := by rw [bys_length]; exact hi
  have lbid : (bys id).length = 32 := by rw [bys_length]; exact hid
  have lbs : (bys s).length = 64 := by rw [bys_length]; exact hs
  have hF := c3_f (n := 64) (h := false) hi hs hc
  obtain ⟨h0, p0, p1, p2, p3⟩ := hF
  have lbc : (bys c).length = 64 := by rw [bys_length]; exact hc
  refine enter (n := 27) (R := fun e M => e = .returned (.tuple #[]) ∧ ∀ w', St [] w0 M w' → ∃ (y : Option Addr × Nat) (lst k : List UInt8) (es : List (List UInt8 × (Option Addr × Nat))), es.map Prod.fst = [r1, r2, r3] ∧ lst.length = 96 ∧ k.length = 32 ∧ St [] w0 (gCore bl br be bk lst y (badN (r3) (badN (r2) (badN (r1) 0))) k [(s, id), (i, fr), (s, fr)].length (elemsV es) ++ (m1 :: (elemsR es.reverse ++ [.blk b6 23 (bys (List.replicate 32 0)), .blk b5 23 (bys fr), .blk b4 23 (bys id), .blk b3 34 (c3 i s c false)]))) w') [haveV bl br be bk, vP b3 0, vP b4 0, vP b5 0] Try.func17 rfl rfl rfl H ?_ (fun e w' L' h H => ⟨h.1, h.2 w' H⟩)
  refine VC_seq ?_
  refine VC_region ?_
  refine vl_v (q_move rfl) rfl ?_
  refine vl_v (q_fldA fo34_1 (by decide) rfl rfl) rfl ?_
  refine vl_v (q_loadsAt 9 Try.underlying25 rfl rfl rfl sz25 p1 lbs) rfl ?_
  refine vl_v (q_loads 8 Try.underlying23 rfl rfl rfl sz23 (by with_reducible assumption)) rfl ?_
  refine l_clo (F := fun u N => u = .tuple #[] ∧ ∃ (y x : Option Addr × Nat), N = gCore bl br be bk (s ++ id) y (badN r1 0) r1 (0 + 1) ([] ++ [.slice x.1 32 x.2]) ++ (rowR r1 x :: m1 :: [.blk b6 23 (bys (List.replicate 32 0)), .blk b5 23 (bys fr), .blk b4 23 (bys id), .blk b3 34 (c3 i s c false)])) rfl Try.func23 rfl rfl rfl (fun w1 H1 => (have_calls bl br be bk s id zB96 (List.replicate 32 0) r1 (none, 0) 0 0 [] hs hid (by simp) (by simp) cc1 (fun _ h => absurd h (by omega)) (by omega) w1 H1).mono (fun e w' ⟨h1, y, x, h2⟩ => ⟨_, _, h1, ⟨rfl, y, x, rfl⟩, h2⟩)) rfl ?_
  rintro _ _ ⟨rfl, y1, x1, rfl⟩
  dsimp only [gCore, List.cons_append, List.nil_append]
  refine vl_nil ?_
  refine (th_n ?_)
  refine VC_seq ?_
  refine VC_region ?_
  refine vl_v (q_move rfl) rfl ?_
  refine vl_v (q_fldA fo34_0 (by decide) rfl rfl) rfl ?_
  refine vl_v (q_loadsAt 10 Try.underlying25 rfl rfl rfl sz25 p0 lbi) rfl ?_
  refine vl_v (q_loads 8 Try.underlying23 rfl rfl rfl sz23 (by with_reducible assumption)) rfl ?_
  refine l_clo (F := fun u N => u = .tuple #[] ∧ ∃ (y x : Option Addr × Nat), N = gCore bl br be bk (i ++ fr) y (badN r2 (badN r1 0)) r2 (1 + 1) ([.slice x1.1 32 x1.2] ++ [.slice x.1 32 x.2]) ++ (rowR r2 x :: rowR r1 x1 :: m1 :: [.blk b6 23 (bys (List.replicate 32 0)), .blk b5 23 (bys fr), .blk b4 23 (bys id), .blk b3 34 (c3 i s c false)])) rfl Try.func23 rfl rfl rfl (fun w1 H1 => (have_calls bl br be bk i fr (s ++ id) r1 r2 y1 (badN r1 0) 1 [.slice x1.1 32 x1.2] hi hfr (by rw [List.length_append, hs, hid]) l1 cc2 v2 (by omega) w1 H1).mono (fun e w' ⟨h1, y, x, h2⟩ => ⟨_, _, h1, ⟨rfl, y, x, rfl⟩, h2⟩)) rfl ?_
  rintro _ _ ⟨rfl, y2, x2, rfl⟩
  dsimp only [gCore, List.cons_append, List.nil_append]
  refine vl_nil ?_
  refine (th_n ?_)
  refine VC_seq ?_
  refine VC_region ?_
  refine vl_v (q_move rfl) rfl ?_
  refine vl_v (q_fldA fo34_1 (by decide) rfl rfl) rfl ?_
  refine vl_v (q_loadsAt 11 Try.underlying25 rfl rfl rfl sz25 p1 lbs) rfl ?_
  refine vl_v (q_loads 9 Try.underlying23 rfl rfl rfl sz23 (by with_reducible assumption)) rfl ?_
  refine l_clo (F := fun u N => u = .tuple #[] ∧ ∃ (y x : Option Addr × Nat), N = gCore bl br be bk (s ++ fr) y (badN r3 (badN r2 (badN r1 0))) r3 (2 + 1) (([.slice x1.1 32 x1.2] ++ [.slice x2.1 32 x2.2]) ++ [.slice x.1 32 x.2]) ++ (rowR r3 x :: rowR r2 x2 :: rowR r1 x1 :: m1 :: [.blk b6 23 (bys (List.replicate 32 0)), .blk b5 23 (bys fr), .blk b4 23 (bys id), .blk b3 34 (c3 i s c false)])) rfl Try.func23 rfl rfl rfl (fun w1 H1 => (have_calls bl br be bk s fr (i ++ fr) r2 r3 y2 (badN r2 (badN r1 0)) 2 ([.slice x1.1 32 x1.2] ++ [.slice x2.1 32 x2.2]) hs hfr (by rw [List.length_append, hi, hfr]) l2 cc3 v3 (by omega) w1 H1).mono (fun e w' ⟨h1, y, x, h2⟩ => ⟨_, _, h1, ⟨rfl, y, x, rfl⟩, h2⟩)) rfl ?_
  rintro _ _ ⟨rfl, y3, x3, rfl⟩
  dsimp only [gCore, List.cons_append, List.nil_append]
  refine vl_nil ?_
  refine (th_n ?_)
  refine VC_seq ?_
  refine VC_region ?_
  refine vl_v (q_fldA fo34_3 (by decide) rfl rfl) rfl ?_
  refine vl_v (q_load 12 Try.underlying4 rfl rfl rfl p3) rfl ?_
  refine vl_nil ?_
  refine (th_n ?_)
  refine VC_no (rfl) ?_
  refine VC_skip ?_
  refine ⟨_, res0 rfl, ?_⟩
  exact ⟨rfl, fun w' H => ⟨y3, _, _, [(r1, x1), (r2, x2), (r3, x3)], rfl, (by rw [List.length_append, hs, hfr]), l3, H.pick (ks := [0, 1, 2, 3, 4, 8, 5, 6, 7, 9, 10, 11, 12]) (by decide) rfl⟩⟩
set_option maxHeartbeats 2000000 in
theorem abegin_true_calls (id fr i s c : List UInt8) (hid : id.length = 64) (hfr : fr.length = 64) (hi : i.length = 32) (hs : s.length = 32) (hc : c.length = 32) (w : World) :
    Calls Try.prog 8 #[.agg (bys id).toArray, .agg (bys fr).toArray, .agg (c3 i s c true).toArray] w fun e w' => e = .returned (.tuple #[.agg (bys (agK [(id, s), (fr, i), (fr, s), (fr, c)])).toArray, vN (badL [(id, s), (fr, i), (fr, s), (fr, c)])]) ∧ Kept [] w w' := by
  have hG := fun b3 b4 b5 b6 => begin_true (w0 := w) b3 b4 b5 b6 id fr i s c hid hfr hi hs hc
  have hn : List.length [(id, s), (fr, i), (fr, s), (fr, c)] ≤ 100 := by simp
  have lag := agK_length [(id, s), (fr, i), (fr, s), (fr, c)]
  obtain ⟨its, hits⟩ : ∃ l, [(id, s), (fr, i), (fr, s), (fr, c)] = l := ⟨_, rfl⟩
  rw [hits] at hG hn lag ⊢
  obtain ⟨ag, hag⟩ : ∃ m, agK its = m := ⟨_, rfl⟩
  obtain ⟨bd, hbd⟩ : ∃ m, badL its = m := ⟨_, rfl⟩
  have hgc := fun (K : List Res) (F : FuncId) (fnF : Func) (caps : List Value) h1 h2 h3 hG w1 H1 => gather_calls (w0 := w) (K := K) (F := F) (fnF := fnF) (caps := caps) (its := its) h1 h2 h3 hG hn w1 H1
  rw [hag] at lag hgc ⊢
  rw [hbd] at hgc ⊢
  have lbag : (bys ag).length = 32 := by rw [bys_length]; exact lag
  have lz : (bys (List.replicate 32 0)).length = 32 := by rw [bys_length, List.length_replicate]
  refine enter (n := 12) (R := fun e M => e = .returned (.tuple #[.agg (bys ag).toArray, vN bd])) [.agg (bys id).toArray, .agg (bys fr).toArray, .agg (c3 i s c true).toArray] Try.func8 rfl rfl rfl (St.refl w) ?_ (fun e w' L' h H => ⟨h, H.kept⟩)
  refine VC_seq ?_
  refine VC_region ?_
  refine l_boxA rfl rfl ?_
  intro b3
  refine l_boxA rfl rfl ?_
  intro b4
  refine l_boxA rfl rfl ?_
  intro b5
  refine l_allocA zr23 rfl ?_
  intro b6
  refine vl_v (q_assign rfl) rfl ?_
  refine vl_nil ?_
  refine (th_n ?_)
  refine VC_seq ?_
  refine VC_region ?_
  refine vl_v (q_makeFunc rfl) rfl ?_
  refine l_callE Try.func15 rfl rfl rfl (fun w1 H1 => hgc _ _ _ _ Try.func16 rfl rfl (hG _ _ _ _) w1 H1) rfl ?_
  refine vl_v (q_ext rfl rfl) rfl ?_
  refine vl_v (q_ext rfl rfl) rfl ?_
  refine l_storeA 0 rfl rfl rfl sz23 (by with_reducible assumption) (by with_reducible first | exact bys_one _ | exact u32s_one _ | exact u64s_one _ | exact i64s_one _ | exact n64s_one _ | assumption) (by with_reducible assumption) ?_
  simp only [List.set_cons_zero, List.set_cons_succ]
  refine vl_v (q_assign rfl) rfl ?_
  refine vl_nil ?_
  refine (th_n ?_)
  refine VC_ret ?_
  refine ⟨_, resC2 0 rfl Try.underlying23 rfl rfl rfl sz23 (by with_reducible assumption) rfl, ?_⟩
  exact rfl
set_option maxHeartbeats 2000000 in
theorem aanswer_true_calls (id fr i s c : List UInt8) (hid : id.length = 32) (hfr : fr.length = 32) (hi : i.length = 64) (hs : s.length = 64) (hc : c.length = 64) (w : World) :
    Calls Try.prog 10 #[.agg (c3 i s c true).toArray, .agg (bys id).toArray, .agg (bys fr).toArray] w fun e w' => e = .returned (.tuple #[.agg (bys (agK [(s, id), (i, fr), (s, fr), (c, fr)])).toArray, vN (badL [(s, id), (i, fr), (s, fr), (c, fr)])]) ∧ Kept [] w w' := by
  have hG := fun b3 b4 b5 b6 => answer_true (w0 := w) b3 b4 b5 b6 id fr i s c hid hfr hi hs hc
  have hn : List.length [(s, id), (i, fr), (s, fr), (c, fr)] ≤ 100 := by simp
  have lag := agK_length [(s, id), (i, fr), (s, fr), (c, fr)]
  obtain ⟨its, hits⟩ : ∃ l, [(s, id), (i, fr), (s, fr), (c, fr)] = l := ⟨_, rfl⟩
  rw [hits] at hG hn lag ⊢
  obtain ⟨ag, hag⟩ : ∃ m, agK its = m := ⟨_, rfl⟩
  obtain ⟨bd, hbd⟩ : ∃ m, badL its = m := ⟨_, rfl⟩
  have hgc := fun (K : List Res) (F : FuncId) (fnF : Func) (caps : List Value) h1 h2 h3 hG w1 H1 => gather_calls (w0 := w) (K := K) (F := F) (fnF := fnF) (caps := caps) (its := its) h1 h2 h3 hG hn w1 H1
  rw [hag] at lag hgc ⊢
  rw [hbd] at hgc ⊢
  have lbag : (bys ag).length = 32 := by rw [bys_length]; exact lag
  have lz : (bys (List.replicate 32 0)).length = 32 := by rw [bys_length, List.length_replicate]
  refine enter (n := 12) (R := fun e M => e = .returned (.tuple #[.agg (bys ag).toArray, vN bd])) [.agg (c3 i s c true).toArray, .agg (bys id).toArray, .agg (bys fr).toArray] Try.func10 rfl rfl rfl (St.refl w) ?_ (fun e w' L' h H => ⟨h, H.kept⟩)
  refine VC_seq ?_
  refine VC_region ?_
  refine l_boxA rfl rfl ?_
  intro b3
  refine l_boxA rfl rfl ?_
  intro b4
  refine l_boxA rfl rfl ?_
  intro b5
  refine l_allocA zr23 rfl ?_
  intro b6
  refine vl_v (q_assign rfl) rfl ?_
  refine vl_nil ?_
  refine (th_n ?_)
  refine VC_seq ?_
  refine VC_region ?_
  refine vl_v (q_makeFunc rfl) rfl ?_
  refine l_callE Try.func15 rfl rfl rfl (fun w1 H1 => hgc _ _ _ _ Try.func17 rfl rfl (hG _ _ _ _) w1 H1) rfl ?_
  refine vl_v (q_ext rfl rfl) rfl ?_
  refine vl_v (q_ext rfl rfl) rfl ?_
  refine l_storeA 0 rfl rfl rfl sz23 (by with_reducible assumption) (by with_reducible first | exact bys_one _ | exact u32s_one _ | exact u64s_one _ | exact i64s_one _ | exact n64s_one _ | assumption) (by with_reducible assumption) ?_
  simp only [List.set_cons_zero, List.set_cons_succ]
  refine vl_v (q_assign rfl) rfl ?_
  refine vl_nil ?_
  refine (th_n ?_)
  refine VC_ret ?_
  refine ⟨_, resC2 0 rfl Try.underlying23 rfl rfl rfl sz23 (by with_reducible assumption) rfl, ?_⟩
  exact rfl
set_option maxHeartbeats 2000000 in
theorem abegin_false_calls (id fr i s c : List UInt8) (hid : id.length = 64) (hfr : fr.length = 64) (hi : i.length = 32) (hs : s.length = 32) (hc : c.length = 32) (w : World) :
    Calls Try.prog 8 #[.agg (bys id).toArray, .agg (bys fr).toArray, .agg (c3 i s c false).toArray] w fun e w' => e = .returned (.tuple #[.agg (bys (agK [(id, s), (fr, i), (fr, s)])).toArray, vN (badL [(id, s), (fr, i), (fr, s)])]) ∧ Kept [] w w' := by
  have hG := fun b3 b4 b5 b6 => begin_false (w0 := w) b3 b4 b5 b6 id fr i s c hid hfr hi hs hc
  have hn : List.length [(id, s), (fr, i), (fr, s)] ≤ 100 := by simp
  have lag := agK_length [(id, s), (fr, i), (fr, s)]
  obtain ⟨its, hits⟩ : ∃ l, [(id, s), (fr, i), (fr, s)] = l := ⟨_, rfl⟩
  rw [hits] at hG hn lag ⊢
  obtain ⟨ag, hag⟩ : ∃ m, agK its = m := ⟨_, rfl⟩
  obtain ⟨bd, hbd⟩ : ∃ m, badL its = m := ⟨_, rfl⟩
  have hgc := fun (K : List Res) (F : FuncId) (fnF : Func) (caps : List Value) h1 h2 h3 hG w1 H1 => gather_calls (w0 := w) (K := K) (F := F) (fnF := fnF) (caps := caps) (its := its) h1 h2 h3 hG hn w1 H1
  rw [hag] at lag hgc ⊢
  rw [hbd] at hgc ⊢
  have lbag : (bys ag).length = 32 := by rw [bys_length]; exact lag
  have lz : (bys (List.replicate 32 0)).length = 32 := by rw [bys_length, List.length_replicate]
  refine enter (n := 12) (R := fun e M => e = .returned (.tuple #[.agg (bys ag).toArray, vN bd])) [.agg (bys id).toArray, .agg (bys fr).toArray, .agg (c3 i s c false).toArray] Try.func8 rfl rfl rfl (St.refl w) ?_ (fun e w' L' h H => ⟨h, H.kept⟩)
  refine VC_seq ?_
  refine VC_region ?_
  refine l_boxA rfl rfl ?_
  intro b3
  refine l_boxA rfl rfl ?_
  intro b4
  refine l_boxA rfl rfl ?_
  intro b5
  refine l_allocA zr23 rfl ?_
  intro b6
  refine vl_v (q_assign rfl) rfl ?_
  refine vl_nil ?_
  refine (th_n ?_)
  refine VC_seq ?_
  refine VC_region ?_
  refine vl_v (q_makeFunc rfl) rfl ?_
  refine l_callE Try.func15 rfl rfl rfl (fun w1 H1 => hgc _ _ _ _ Try.func16 rfl rfl (hG _ _ _ _) w1 H1) rfl ?_
  refine vl_v (q_ext rfl rfl) rfl ?_
  refine vl_v (q_ext rfl rfl) rfl ?_
  refine l_storeA 0 rfl rfl rfl sz23 (by with_reducible assumption) (by with_reducible first | exact bys_one _ | exact u32s_one _ | exact u64s_one _ | exact i64s_one _ | exact n64s_one _ | assumption) (by with_reducible assumption) ?_
  simp only [List.set_cons_zero, List.set_cons_succ]
  refine vl_v (q_assign rfl) rfl ?_
  refine vl_nil ?_
  refine (th_n ?_)
  refine VC_ret ?_
  refine ⟨_, resC2 0 rfl Try.underlying23 rfl rfl rfl sz23 (by with_reducible assumption) rfl, ?_⟩
  exact rfl
set_option maxHeartbeats 2000000 in
theorem aanswer_false_calls (id fr i s c : List UInt8) (hid : id.length = 32) (hfr : fr.length = 32) (hi : i.length = 64) (hs : s.length = 64) (hc : c.length = 64) (w : World) :
    Calls Try.prog 10 #[.agg (c3 i s c false).toArray, .agg (bys id).toArray, .agg (bys fr).toArray] w fun e w' => e = .returned (.tuple #[.agg (bys (agK [(s, id), (i, fr), (s, fr)])).toArray, vN (badL [(s, id), (i, fr), (s, fr)])]) ∧ Kept [] w w' := by
  have hG := fun b3 b4 b5 b6 => answer_false (w0 := w) b3 b4 b5 b6 id fr i s c hid hfr hi hs hc
  have hn : List.length [(s, id), (i, fr), (s, fr)] ≤ 100 := by simp
  have lag := agK_length [(s, id), (i, fr), (s, fr)]
  obtain ⟨its, hits⟩ : ∃ l, [(s, id), (i, fr), (s, fr)] = l := ⟨_, rfl⟩
  rw [hits] at hG hn lag ⊢
  obtain ⟨ag, hag⟩ : ∃ m, agK its = m := ⟨_, rfl⟩
  obtain ⟨bd, hbd⟩ : ∃ m, badL its = m := ⟨_, rfl⟩
  have hgc := fun (K : List Res) (F : FuncId) (fnF : Func) (caps : List Value) h1 h2 h3 hG w1 H1 => gather_calls (w0 := w) (K := K) (F := F) (fnF := fnF) (caps := caps) (its := its) h1 h2 h3 hG hn w1 H1
  rw [hag] at lag hgc ⊢
  rw [hbd] at hgc ⊢
  have lbag : (bys ag).length = 32 := by rw [bys_length]; exact lag
  have lz : (bys (List.replicate 32 0)).length = 32 := by rw [bys_length, List.length_replicate]
  refine enter (n := 12) (R := fun e M => e = .returned (.tuple #[.agg (bys ag).toArray, vN bd])) [.agg (c3 i s c false).toArray, .agg (bys id).toArray, .agg (bys fr).toArray] Try.func10 rfl rfl rfl (St.refl w) ?_ (fun e w' L' h H => ⟨h, H.kept⟩)
  refine VC_seq ?_
  refine VC_region ?_
  refine l_boxA rfl rfl ?_
  intro b3
  refine l_boxA rfl rfl ?_
  intro b4
  refine l_boxA rfl rfl ?_
  intro b5
  refine l_allocA zr23 rfl ?_
  intro b6
  refine vl_v (q_assign rfl) rfl ?_
  refine vl_nil ?_
  refine (th_n ?_)
  refine VC_seq ?_
  refine VC_region ?_
  refine vl_v (q_makeFunc rfl) rfl ?_
  refine l_callE Try.func15 rfl rfl rfl (fun w1 H1 => hgc _ _ _ _ Try.func17 rfl rfl (hG _ _ _ _) w1 H1) rfl ?_
  refine vl_v (q_ext rfl rfl) rfl ?_
  refine vl_v (q_ext rfl rfl) rfl ?_
  refine l_storeA 0 rfl rfl rfl sz23 (by with_reducible assumption) (by with_reducible first | exact bys_one _ | exact u32s_one _ | exact u64s_one _ | exact i64s_one _ | exact n64s_one _ | assumption) (by with_reducible assumption) ?_
  simp only [List.set_cons_zero, List.set_cons_succ]
  refine vl_v (q_assign rfl) rfl ?_
  refine vl_nil ?_
  refine (th_n ?_)
  refine VC_ret ?_
  refine ⟨_, resC2 0 rfl Try.underlying23 rfl rfl rfl sz23 (by with_reducible assumption) rfl, ?_⟩
  exact rfl
end Go.Proofs.Ytabmfndiepmcgaa
end
section
namespace Go.PBYtabmfndiepmcgaa
open Go Go.RowKit
set_option linter.unusedVariables false
theorem fill_step {place : Nat → Option (Nat × Nat)} {c : List Value} {i off size : Nat} {v : Value} {r : List (Nat × Value)} (h : place i = some (off, size)) (h1 : v.cells.toList.length = size) (h2 : off + size ≤ c.length) :
    fillS place c ((i, v) :: r) = fillS place (splice c off v.cells.toList) r := by
  rw [fillS, h]
  exact if_pos ⟨h1, h2⟩
theorem fill_agg {place : Nat → Option (Nat × Nat)} {c : List Value} {i off size : Nat} {vs : List Value} {r : List (Nat × Value)} (h : place i = some (off, size)) (h1 : vs.length = size) (h2 : off + size ≤ c.length) :
    fillS place c ((i, .agg vs.toArray) :: r) = fillS place (splice c off vs) r := fill_step h h1 h2
theorem fill_bool {place : Nat → Option (Nat × Nat)} {c : List Value} {i off : Nat} {b : Bool} {r : List (Nat × Value)} (h : place i = some (off, 1)) (h2 : off + 1 ≤ c.length) :
    fillS place c ((i, .bool b) :: r) = fillS place (splice c off [.bool b]) r := fill_step h rfl h2
theorem fill_end {place : Nat → Option (Nat × Nat)} {c : List Value} : fillS place c [] = some c := rfl
theorem splice3 (a b c v : List Value) (j : Nat) (ha : a.length = j) (hv : v.length = b.length) : splice (a ++ (b ++ c)) j v = a ++ (v ++ c) := by
  subst ha
  unfold splice
  simp [hv]
theorem splice_zero (b c v : List Value) (hv : v.length = b.length) : splice (b ++ c) 0 v = v ++ c := by
  unfold splice
  simp [hv]
section
variable {n : Nat} {a b c a' b' c' : List UInt8} {h h' : Bool}
theorem c3_set0 (ha : a.length = n) (ha' : a'.length = n) : splice (c3 a b c h) 0 (bys a') = c3 a' b c h := splice_zero _ _ _ (by simp [bys, ha, ha'])
theorem c3_set1 (ha : a.length = n) (hb : b.length = n) (hb' : b'.length = n) : splice (c3 a b c h) n (bys b') = c3 a b' c h := splice3 _ _ _ _ n (by simp [bys, ha]) (by simp [bys, hb, hb'])
theorem c3_set2 (ha : a.length = n) (hb : b.length = n) (hc : c.length = n) (hc' : c'.length = n) : splice (c3 a b c h) (n + n) (bys c') = c3 a b c' h := by
  have := splice3 (bys a ++ bys b) (bys c) [.bool h] (bys c') (n + n) (by simp [bys, ha, hb]) (by simp [bys, hc, hc'])
  simpa [c3, List.append_assoc] using this
theorem c3_set3 (ha : a.length = n) (hb : b.length = n) (hc : c.length = n) : splice (c3 a b c h) (n + n + n) [.bool h'] = c3 a b c h' := by
  have := splice3 (bys a ++ (bys b ++ bys c)) [.bool h] [] [.bool h'] (n + n + n) (by simp [bys, ha, hb, hc]; omega) rfl
  simpa [c3, List.append_assoc] using this
theorem c3_setB (ha : a.length = n) (hb : b.length = n) (hc : c.length = n) {j : Nat} (hj : j = n + n + n) : (c3 a b c h).set j (.bool h') = c3 a b c h' := by
  subst hj
  have e : ∀ g : Bool, c3 a b c g = (bys a ++ (bys b ++ bys c)) ++ [.bool g] := by intro g; simp [c3, List.append_assoc]
  rw [e h, e h', List.set_append_right _ _ (by simp [bys, ha, hb, hc]; omega)]
  simp [bys, ha, hb, hc]
  rw [show n + n + n - (n + (n + n)) = 0 by omega]
  rfl
theorem part_sub {l : List Value} {x : List UInt8} {o k m : Nat} (h : (l.drop o).take n = bys x) (hk : k + m ≤ n) : (l.drop (o + k)).take m = bys ((x.drop k).take m) := by
  have h2 : (((l.drop o).take n).drop k).take m = bys ((x.drop k).take m) := by rw [h]; simp [bys]
  rw [List.drop_take, List.take_take, List.drop_drop, Nat.min_eq_left (by omega)] at h2
  exact h2
end
end Go.PBYtabmfndiepmcgaa
namespace Go.Proofs.Ytabmfndiepmcgaa
open Go.RowKit Go.PBYtabmfndiepmcgaa
set_option linter.unusedVariables false
set_option linter.unusedSimpArgs false
set_option maxRecDepth 10000
abbrev k32 : List UInt8 := List.replicate 32 0
def pubK (x : List UInt8) : List UInt8 := (x.drop 32).take 32
theorem pubK_length {x : List UInt8} (h : x.length = 64) : (pubK x).length = 32 := by unfold pubK; simp; omega
theorem bundle_lay : layS Try.prog 27 = some (c3 k32 k32 k32 false, [(0, 32), (32, 32), (64, 32), (96, 1)]) := by kernel_rfl
theorem bundle_built {a b : List UInt8} {h : Bool} (ha : a.length = 32) (hb : b.length = 32) : Try.prog.built 27 [(0, .agg (bys a).toArray), (1, .agg (bys b).toArray), (3, .bool h)] = some (c3 a b k32 h).toArray := by
  have hz : k32.length = 32 := by simp
  have lba : (bys a).length = 32 := by rw [bys_length, ha]
  have lbb : (bys b).length = 32 := by rw [bys_length, hb]
  refine built_S bundle_lay ?_
  rw [fill_agg (off := 0) (size := 32) rfl lba (by rw [(c3_f hz hz hz).len]; omega), c3_set0 hz ha,
    fill_agg (off := 32) (size := 32) rfl lbb (by rw [(c3_f ha hz hz).len]; omega), c3_set1 ha hz hb,
    fill_bool (off := 96) rfl (by rw [(c3_f ha hb hz).len]; omega), fill_end]
  exact congrArg some (c3_set3 (n := 32) ha hb hz)
theorem bundle_built2 {a b : List UInt8} (ha : a.length = 32) (hb : b.length = 32) : Try.prog.built 27 [(0, .agg (bys a).toArray), (1, .agg (bys b).toArray)] = some (c3 a b k32 false).toArray := by
  have hz : k32.length = 32 := by simp
  have lba : (bys a).length = 32 := by rw [bys_length, ha]
  have lbb : (bys b).length = 32 := by rw [bys_length, hb]
  refine built_S bundle_lay ?_
  rw [fill_agg (off := 0) (size := 32) rfl lba (by rw [(c3_f hz hz hz).len]; omega), c3_set0 hz ha,
    fill_agg (off := 32) (size := 32) rfl lbb (by rw [(c3_f ha hz hz).len]; omega), c3_set1 ha hz hb, fill_end]
/-- an account's bundle -/
def bnd (i s c : List UInt8) (h : Bool) : List Value := c3 (pubK i) (pubK s) (if h then pubK c else k32) h
theorem bcells_eq : bys k32 ++ bys k32 ++ bys k32 ++ [Value.bool false] = c3 k32 k32 k32 false := by simp [c3, List.append_assoc]
set_option maxHeartbeats 2000000 in
theorem bundle_true_calls (i s c : List UInt8) (hi : i.length = 64) (hs : s.length = 64) (hc : c.length = 64) (w : World) :
    Calls Try.prog 12 #[.agg (c3 i s c true).toArray] w fun e w' => e = .returned (.agg (bnd i s c true).toArray) ∧ Kept [] w w' := by
  have hF := c3_f (n := 64) (h := true) hi hs hc
  obtain ⟨h0, p0, p1, p2, p3⟩ := hF
  have q0 : ((c3 i s c true).drop 32).take 32 = bys (pubK i) := part_sub (k := 32) (m := 32) p0 (by omega)
  have q1 : ((c3 i s c true).drop 96).take 32 = bys (pubK s) := part_sub (k := 32) (m := 32) p1 (by omega)
  have q2 : ((c3 i s c true).drop 160).take 32 = bys (pubK c) := part_sub (k := 32) (m := 32) p2 (by omega)
  have hz : k32.length = 32 := by simp
  have li := pubK_length hi
  have ls := pubK_length hs
  have lc := pubK_length hc
  have hbu := bundle_built (h := true) li ls
  have f0 := (c3_f (h := true) li ls hz).len
  have f1 := (c3_f (h := true) li ls lc).len
  have g0 := c3_one (pubK i) (pubK s) k32 true
  have g1 := c3_one (pubK i) (pubK s) (pubK c) true
  have fz := (c3_f (h := false) hz hz hz).len
  have e2 := c3_set2 (h := true) li ls hz lc
  show Calls Try.prog 12 #[.agg (c3 i s c true).toArray] w fun e w' => e = .returned (.agg (c3 (pubK i) (pubK s) (pubK c) true).toArray) ∧ Kept [] w w'
  obtain ⟨pi, hpi⟩ : ∃ p, pubK i = p := ⟨_, rfl⟩
  obtain ⟨ps, hps⟩ : ∃ p, pubK s = p := ⟨_, rfl⟩
  obtain ⟨pc, hpc⟩ : ∃ p, pubK c = p := ⟨_, rfl⟩
  rw [hpi] at q0 li f0 f1 g0 g1 e2 hbu
  rw [hps] at q1 ls f0 f1 g0 g1 e2 hbu
  rw [hpc] at q2 lc f1 g1 e2
  rw [hpi, hps, hpc]
  obtain ⟨v, hv⟩ : ∃ v, c3 i s c true = v := ⟨_, rfl⟩
  rw [hv] at h0 p3 q0 q1 q2 ⊢
  have lb0 : (bys pi).length = 32 := by rw [bys_length, li]
  have lb1 : (bys ps).length = 32 := by rw [bys_length, ls]
  have lb2 : (bys pc).length = 32 := by rw [bys_length, lc]
  refine enter (n := 20) (R := fun e M => e = .returned (.agg (c3 pi ps pc true).toArray)) [.agg v.toArray] Try.func12 rfl rfl rfl (St.refl w) ?_ (fun e w' L' h H => ⟨h, H.kept⟩)
  refine VC_seq ?_
  refine VC_region ?_
  refine l_boxA rfl rfl ?_
  intro b1
  refine l_allocA zr27 rfl ?_
  intro b2
  refine vl_nil ?_
  refine (th_n ?_)
  refine VC_seq ?_
  refine VC_region ?_
  refine vl_v (q_fldA fo34_0 (by decide) rfl rfl) rfl ?_
  refine vl_v (q_fldA fo25_1 (by decide) rfl rfl) rfl ?_
  refine vl_v (q_loadsAt 1 Try.underlying23 rfl rfl rfl sz23 q0 lb0) rfl ?_
  refine vl_v (q_fldA fo34_1 (by decide) rfl rfl) rfl ?_
  refine vl_v (q_fldA fo25_1 (by decide) rfl rfl) rfl ?_
  refine vl_v (q_loadsAt 1 Try.underlying23 rfl rfl rfl sz23 q1 lb1) rfl ?_
  refine vl_v (q_fldA fo34_3 (by decide) rfl rfl) rfl ?_
  refine vl_v (q_load 1 Try.underlying4 rfl rfl rfl p3) rfl ?_
  refine vl_v (q_build (c' := c3 pi ps k32 true) rfl hbu) rfl ?_
  refine l_allocA zr27 rfl ?_
  intro b3
  refine l_storeA 0 rfl rfl rfl sz27 f0 g0 (by rw [bcells_eq]; exact fz) ?_
  simp only [List.set_cons_zero, List.set_cons_succ]
  refine vl_nil ?_
  refine (th_n ?_)
  refine VC_seq ?_
  refine VC_seq ?_
  refine VC_region ?_
  refine vl_v (q_fldA fo34_3 (by decide) rfl rfl) rfl ?_
  refine vl_v (q_load 2 Try.underlying4 rfl rfl rfl p3) rfl ?_
  refine vl_nil ?_
  refine (th_n ?_)
  refine VC_yes (rfl) ?_
  refine VC_region ?_
  refine vl_v (q_fldA fo34_2 (by decide) rfl rfl) rfl ?_
  refine vl_v (q_fldA fo25_1 (by decide) rfl rfl) rfl ?_
  refine vl_v (q_loadsAt 2 Try.underlying23 rfl rfl rfl sz23 q2 lb2) rfl ?_
  refine vl_v (q_fldA fo27_2 (by decide) rfl rfl) rfl ?_
  refine l_storeG 0 rfl rfl rfl sz23 (by with_reducible assumption) (by with_reducible first | exact bys_one _ | exact u32s_one _ | exact u64s_one _ | exact i64s_one _ | exact n64s_one _ | assumption) (by omega) ?_
  simp only [List.set_cons_zero, List.set_cons_succ]
  refine vl_nil ?_
  refine (th_n ?_)
  refine VC_seq ?_
  rw [e2]
  refine VC_region ?_
  refine vl_v (q_loads 0 Try.underlying27 rfl rfl rfl sz27 (by with_reducible assumption)) rfl ?_
  refine l_storeA 1 rfl rfl rfl sz27 f1 g1 (by rw [bcells_eq]; exact fz) ?_
  simp only [List.set_cons_zero, List.set_cons_succ]
  refine vl_nil ?_
  refine (th_n ?_)
  refine VC_ret ?_
  refine ⟨_, resC1 1 rfl Try.underlying27 rfl rfl rfl sz27 (by with_reducible assumption), ?_⟩
  exact rfl
set_option maxHeartbeats 2000000 in
theorem bundle_false_calls (i s c : List UInt8) (hi : i.length = 64) (hs : s.length = 64) (hc : c.length = 64) (w : World) :
    Calls Try.prog 12 #[.agg (c3 i s c false).toArray] w fun e w' => e = .returned (.agg (bnd i s c false).toArray) ∧ Kept [] w w' := by
  have hF := c3_f (n := 64) (h := false) hi hs hc
  obtain ⟨h0, p0, p1, p2, p3⟩ := hF
  have q0 : ((c3 i s c false).drop 32).take 32 = bys (pubK i) := part_sub (k := 32) (m := 32) p0 (by omega)
  have q1 : ((c3 i s c false).drop 96).take 32 = bys (pubK s) := part_sub (k := 32) (m := 32) p1 (by omega)
  have q2 : ((c3 i s c false).drop 160).take 32 = bys (pubK c) := part_sub (k := 32) (m := 32) p2 (by omega)
  have hz : k32.length = 32 := by simp
  have li := pubK_length hi
  have ls := pubK_length hs
  have lc := pubK_length hc
  have hbu := bundle_built (h := false) li ls
  have f0 := (c3_f (h := false) li ls hz).len
  have f1 := (c3_f (h := false) li ls lc).len
  have g0 := c3_one (pubK i) (pubK s) k32 false
  have g1 := c3_one (pubK i) (pubK s) (pubK c) false
  have fz := (c3_f (h := false) hz hz hz).len
  have e2 := c3_set2 (h := false) li ls hz lc
  show Calls Try.prog 12 #[.agg (c3 i s c false).toArray] w fun e w' => e = .returned (.agg (c3 (pubK i) (pubK s) k32 false).toArray) ∧ Kept [] w w'
  obtain ⟨pi, hpi⟩ : ∃ p, pubK i = p := ⟨_, rfl⟩
  obtain ⟨ps, hps⟩ : ∃ p, pubK s = p := ⟨_, rfl⟩
  obtain ⟨pc, hpc⟩ : ∃ p, pubK c = p := ⟨_, rfl⟩
  rw [hpi] at q0 li f0 f1 g0 g1 e2 hbu
  rw [hps] at q1 ls f0 f1 g0 g1 e2 hbu
  rw [hpc] at q2 lc f1 g1 e2
  rw [hpi, hps]
  obtain ⟨v, hv⟩ : ∃ v, c3 i s c false = v := ⟨_, rfl⟩
  rw [hv] at h0 p3 q0 q1 q2 ⊢
  have lb0 : (bys pi).length = 32 := by rw [bys_length, li]
  have lb1 : (bys ps).length = 32 := by rw [bys_length, ls]
  have lb2 : (bys pc).length = 32 := by rw [bys_length, lc]
  refine enter (n := 20) (R := fun e M => e = .returned (.agg (c3 pi ps k32 false).toArray)) [.agg v.toArray] Try.func12 rfl rfl rfl (St.refl w) ?_ (fun e w' L' h H => ⟨h, H.kept⟩)
  refine VC_seq ?_
  refine VC_region ?_
  refine l_boxA rfl rfl ?_
  intro b1
  refine l_allocA zr27 rfl ?_
  intro b2
  refine vl_nil ?_
  refine (th_n ?_)
  refine VC_seq ?_
  refine VC_region ?_
  refine vl_v (q_fldA fo34_0 (by decide) rfl rfl) rfl ?_
  refine vl_v (q_fldA fo25_1 (by decide) rfl rfl) rfl ?_
  refine vl_v (q_loadsAt 1 Try.underlying23 rfl rfl rfl sz23 q0 lb0) rfl ?_
  refine vl_v (q_fldA fo34_1 (by decide) rfl rfl) rfl ?_
  refine vl_v (q_fldA fo25_1 (by decide) rfl rfl) rfl ?_
  refine vl_v (q_loadsAt 1 Try.underlying23 rfl rfl rfl sz23 q1 lb1) rfl ?_
  refine vl_v (q_fldA fo34_3 (by decide) rfl rfl) rfl ?_
  refine vl_v (q_load 1 Try.underlying4 rfl rfl rfl p3) rfl ?_
  refine vl_v (q_build (c' := c3 pi ps k32 false) rfl hbu) rfl ?_
  refine l_allocA zr27 rfl ?_
  intro b3
  refine l_storeA 0 rfl rfl rfl sz27 f0 g0 (by rw [bcells_eq]; exact fz) ?_
  simp only [List.set_cons_zero, List.set_cons_succ]
  refine vl_nil ?_
  refine (th_n ?_)
  refine VC_seq ?_
  refine VC_seq ?_
  refine VC_region ?_
  refine vl_v (q_fldA fo34_3 (by decide) rfl rfl) rfl ?_
  refine vl_v (q_load 2 Try.underlying4 rfl rfl rfl p3) rfl ?_
  refine vl_nil ?_
  refine (th_n ?_)
  refine VC_no (rfl) ?_
  refine VC_skip ?_
  refine (th_n ?_)
  refine VC_seq ?_
  refine VC_region ?_
  refine vl_v (q_loads 0 Try.underlying27 rfl rfl rfl sz27 (by with_reducible assumption)) rfl ?_
  refine l_storeA 1 rfl rfl rfl sz27 f0 g0 (by rw [bcells_eq]; exact fz) ?_
  simp only [List.set_cons_zero, List.set_cons_succ]
  refine vl_nil ?_
  refine (th_n ?_)
  refine VC_ret ?_
  refine ⟨_, resC1 1 rfl Try.underlying27 rfl rfl rfl sz27 (by with_reducible assumption), ?_⟩
  exact rfl
end Go.Proofs.Ytabmfndiepmcgaa
end
section
namespace Go.Proofs.Ytabmfndiepmcgaa
open Go.RowKit Go.PBYtabmfndiepmcgaa
set_option linter.unusedVariables false
set_option linter.unusedSimpArgs false
set_option maxRecDepth 10000
theorem foldl_snoc' {α β : Type} (f : β → α → β) (a : β) (l : List α) (x : α) : List.foldl f a (l ++ [x]) = f (List.foldl f a l) x := by rw [List.foldl_append]; rfl
theorem badL_snoc (l : List (List UInt8 × List UInt8)) (i : List UInt8 × List UInt8) : badL (l ++ [i]) = badN (comI i) (badL l) :=
  foldl_snoc' _ _ _ _
theorem badN_0 {r : List UInt8} {b : Nat} (h : comE r = 0) : badN r b = b := if_pos h
theorem comE_cases (k : List UInt8) : comE k = 0 ∨ comE k = 12 := by unfold comE; split <;> simp
theorem badL_12 : ∀ (r l : List (List UInt8 × List UInt8)), badL l = 12 → badL (l ++ r) = 12
  | [], l, h => by simpa using h
  | i :: r, l, h => by
    have h2 : badL (l ++ [i]) = 12 := by
      rw [badL_snoc]
      unfold badN
      rcases comE_cases (comI i) with e | e
      · rw [if_pos e]; exact h
      · rw [if_neg (by omega)]; exact e
    have := badL_12 r (l ++ [i]) h2
    simpa [List.append_assoc] using this
theorem badL_bad {its : List (List UInt8 × List UInt8)} {j : Nat} {i : List UInt8 × List UInt8} (hj : its[j]? = some i) (h : ¬ comE (comI i) = 0) : badL its = 12 := by
  have h2 : badL (its.take (j + 1)) = 12 := by
    rw [List.take_add_one, hj]
    show badL (its.take j ++ [i]) = 12
    rw [badL_snoc]
    unfold badN
    rw [if_neg h]
    rcases comE_cases (comI i) with e | e
    · exact absurd e h
    · exact e
  have := badL_12 (its.drop (j + 1)) _ h2
  rwa [List.take_append_drop] at this
/-- rows of pairs and keys -/
def rowsL (its : List (List UInt8 × List UInt8)) : List Value := (its.map fun i => bys (i.1 ++ i.2)).flatten
theorem rowsL_all {its : List (List UInt8 × List UInt8)} (h : ∀ i ∈ its, okI i) : ∀ u ∈ its.map (fun i => bys (i.1 ++ i.2)), u.length = 96 := by
  intro u hu
  obtain ⟨i, hi, rfl⟩ := List.mem_map.1 hu
  have := h i hi
  rw [bys_length, List.length_append, this.1, this.2]
theorem rowsL_part {its : List (List UInt8 × List UInt8)} (h : ∀ i ∈ its, okI i) {j : Nat} {i : List UInt8 × List UInt8} (hj : its[j]? = some i) : ((rowsL its).drop (j * 96)).take 96 = bys (i.1 ++ i.2) := by
  have hl := (List.getElem?_eq_some_iff.1 hj).1
  have := flatten_part (sz := 96) (its.map fun i => bys (i.1 ++ i.2)) j (rowsL_all h) (by simpa using hl)
  unfold rowsL
  rw [this, List.getD_eq_getElem?_getD, List.getElem?_map, hj]
  rfl
theorem rowsL_own {its : List (List UInt8 × List UInt8)} (h : ∀ i ∈ its, okI i) {j : Nat} {i : List UInt8 × List UInt8} (hj : its[j]? = some i) : ((rowsL its).drop (j * 96)).take 64 = bys i.1 := by
  have hio := h i (List.mem_of_getElem? hj)
  have h2 := part_sub (k := 0) (m := 64) (rowsL_part h hj) (by omega)
  have e : ((i.1 ++ i.2).drop 0).take 64 = i.1 := by rw [List.drop_zero]; exact List.take_left' hio.1
  rw [e] at h2
  exact h2
theorem rowsL_pub {its : List (List UInt8 × List UInt8)} (h : ∀ i ∈ its, okI i) {j : Nat} {i : List UInt8 × List UInt8} (hj : its[j]? = some i) : ((rowsL its).drop (j * 96 + 64)).take 32 = bys i.2 := by
  have hio := h i (List.mem_of_getElem? hj)
  have h2 := part_sub (k := 64) (m := 32) (rowsL_part h hj) (by omega)
  have e : ((i.1 ++ i.2).drop 64).take 32 = i.2 := by rw [List.drop_left' hio.1]; exact List.take_of_length_le (by rw [hio.2]; omega)
  rw [e] at h2
  exact h2
theorem rowsL_length {its : List (List UInt8 × List UInt8)} (h : ∀ i ∈ its, okI i) : (rowsL its).length = its.length * 96 := by
  unfold rowsL
  rw [flatten_length _ (rowsL_all h), List.length_map]
theorem elemsV_snoc (es : List (List UInt8 × (Option Addr × Nat))) (e : List UInt8 × (Option Addr × Nat)) : elemsV (es ++ [e]) = elemsV es ++ [.slice e.2.1 32 e.2.2] := List.map_append
theorem elemsR_snoc (es : List (List UInt8 × (Option Addr × Nat))) (e : List UInt8 × (Option Addr × Nat)) : elemsR (es ++ [e]).reverse = rowR e.1 e.2 :: elemsR es.reverse := by rw [List.reverse_append]; rfl
set_option maxHeartbeats 1000000 in
theorem rkof_calls (its : List (List UInt8 × List UInt8)) (A : Option Addr) (n c : Nat) (hn : n = its.length) (hok : ∀ i ∈ its, okI i) (h100 : n ≤ 100) (w : World) (hA : SlAt w A (rowsL its)) :
    Calls Try.prog 11 #[.slice A n c] w fun e w' => e = .returned (.tuple #[.agg (bys (agK its)).toArray, vN (badL its)]) ∧ Kept [] w w' := by
  have lz : (bys (List.replicate 32 0)).length = 32 := by rw [bys_length, List.length_replicate]
  have lag := agK_length its
  have lbag : (bys (agK its)).length = 32 := by rw [bys_length]; exact lag
  have hdc := fun A c w hA hc => rdraw_calls (List.replicate 32 0) (joinB (its.map comI)) A c (36 * its.length) (joinB_coms its).symm (by simp) (by rw [joinB_coms]; omega) w hA hc
  have hjl := joinB_coms its
  have hml := macB_length (List.replicate 32 0) (joinB (its.map comI))
  have hk0 : badL its = 0 → agK its = macB (List.replicate 32 0) (joinB (its.map comI)) := fun h => if_pos h
  have hk1 : ¬ badL its = 0 → agK its = List.replicate 32 0 := fun h => if_neg h
  obtain ⟨mk, hmk⟩ : ∃ m, macB (List.replicate 32 0) (joinB (its.map comI)) = m := ⟨_, rfl⟩
  rw [hmk] at hdc hml hk0
  have lbm : (bys mk).length = 32 := by rw [bys_length]; exact hml
  obtain ⟨ag, hag⟩ : ∃ m, agK its = m := ⟨_, rfl⟩
  rw [hag] at hk0 hk1 lag lbag ⊢
  obtain ⟨bd, hbd⟩ : ∃ m, badL its = m := ⟨_, rfl⟩
  rw [hbd] at hk0 hk1 ⊢
  have hL := rowsL_length hok
  refine enter (n := 42) (R := fun e M => e = .returned (.tuple #[.agg (bys ag).toArray, vN bd])) [.slice A n c] Try.func11 rfl rfl rfl (St.refl w) ?_ (fun e w' L' h H => ⟨h, H.kept⟩)
  refine VC_seq ?_
  refine VC_region ?_
  refine l_allocA zr23 rfl ?_
  intro b2
  refine vl_v (q_assign rfl) rfl ?_
  refine vl_nil ?_
  refine (th_n ?_)
  refine VC_seq ?_
  refine VC_region ?_
  refine vl_v (q_assign rfl) rfl ?_
  refine vl_nil ?_
  refine (th_n ?_)
  refine VC_seq ?_
  refine VC_seq ?_
  refine VC_region ?_
  refine vl_v (q_assign rfl) rfl ?_
  refine vl_nil ?_
  refine (th_n ?_)
  refine VC_block ?_
  refine VC_loop (ι := Nat × (Option Addr × Nat) × List (List UInt8 × (Option Addr × Nat))) (fun x => x.1 ≤ n ∧ badL (its.take x.1) = 0 ∧ x.2.2.map Prod.fst = (its.take x.1).map comI) (fun x => [(0, .slice A n c), (2, vP b2 0), (3, vN 0), (4, .slice x.2.1.1 x.1 x.2.1.2), (5, vN x.1)]) (fun x => .row 45 1 (.slice x.2.1.1 x.1 x.2.1.2) x.1 (elemsV x.2.2) :: .blk b2 23 (bys (List.replicate 32 0)) :: elemsR x.2.2.reverse) (fun x => n - x.1) (0, (none, 0), []) (⟨by omega, rfl, rfl⟩) (Sub.cons (s := 0) rfl (Sub.cons (s := 2) rfl (Sub.cons (s := 3) rfl (Sub.cons (s := 4) rfl (Sub.cons (s := 5) rfl (Sub.nil _)))))) (fun w H => (H.addNil 45 1).perm List.perm_append_comm) ?_
  rintro ⟨i, y, es⟩ hp
  obtain ⟨hin, hb0, hes⟩ := hp
  simp only at hin hb0 hes
  refine VC_seq ?_
  refine VC_seq ?_
  refine VC_region ?_
  refine vl_v (q_move rfl) rfl ?_
  refine vl_v (q_move rfl) rfl ?_
  refine vl_v (q_lenS Try.underlying37 rfl) rfl ?_
  refine vl_v (q_lss_n Try.underlying3 rfl rfl) rfl ?_
  refine vl_nil ?_
  refine (th_n ?_)
  refine VC_cond rfl (fun ht11 => ?_) (fun ht11 => ?_)
  · skip
    have ht11 := of_decide_eq_true ht11
    obtain ⟨it, hit⟩ : ∃ it, its[i]? = some it := ⟨_, List.getElem?_eq_getElem (by omega)⟩
    have hio := hok it (List.mem_of_getElem? hit)
    have htk : its.take (i + 1) = its.take i ++ [it] := by rw [List.take_add_one, hit]; rfl
    have ha : (it.1.take 32).length = 32 := by rw [List.length_take, hio.1]; omega
    have hb : (it.1.drop 32).length = 32 := by rw [List.length_drop, hio.1]
    have hcc := fun w => rcom_calls (it.1.take 32) (it.1.drop 32) it.2 ha hb hio.2 w
    rw [List.take_append_drop] at hcc
    have hpo := rowsL_own hok hit
    have hpq := rowsL_pub hok hit
    have hlo : (bys it.1).length = 64 := by rw [bys_length]; exact hio.1
    have hlq : (bys it.2).length = 32 := by rw [bys_length]; exact hio.2
    have hbad := badL_bad hit
    have hr0 : comB (it.1.take 32) it.2 = comI it := by simp only [comI]
    rw [hr0] at hcc
    have lr := comI_length it
    obtain ⟨r, hr⟩ : ∃ r, comI it = r := ⟨_, rfl⟩
    rw [hr] at hcc lr hbad
    have lbr : (bys r).length = 32 := by rw [bys_length]; exact lr
    refine VC_skip ?_
    refine (th_n ?_)
    refine VC_seq ?_
    refine VC_block ?_
    refine VC_seq ?_
    refine VC_frame (X := [_, _]) (fun w9 H9 => ?_)
    refine VC_drawQ 16 2 [[], [], [0, 1], [2], [3], [], [], [5, 6], [7], [8], [4, 9], [10], [11], [11], [], [14, 12, 10, 0, 1, 2, 3, 4, 5, 6, 7, 8, 9, 11], [13, 15, 0, 1, 2, 3, 4, 5, 6, 7, 8, 9, 10, 11, 12, 14]] [[], [], [0, 1], [0, 1, 2], [0, 1, 2, 3], [], [], [5, 6], [5, 6, 7], [5, 6, 7, 8], [0, 1, 2, 3, 4, 5, 6, 7, 8, 9], [0, 1, 2, 3, 4, 5, 6, 7, 8, 9, 10], [0, 1, 2, 3, 4, 5, 6, 7, 8, 9, 10, 11], [0, 1, 2, 3, 4, 5, 6, 7, 8, 9, 10, 11], [], [0, 1, 2, 3, 4, 5, 6, 7, 8, 9, 10, 11, 12, 14], [0, 1, 2, 3, 4, 5, 6, 7, 8, 9, 10, 11, 12, 13, 14, 15]] [([], [], [], [0, 1], []), ([], [], [], [0, 1], []), ([0, 1], [], [], [0, 1], [0, 1]), ([0, 1, 2], [], [], [0, 1], [0, 1, 2]), ([0, 1, 2, 3], [], [], [0, 1], [0, 1, 2, 3]), ([], [], [], [0, 1], []), ([], [], [], [0, 1], []), ([5, 6], [], [], [0, 1], [5, 6]), ([5, 6, 7], [], [], [0, 1], [5, 6, 7]), ([5, 6, 7, 8], [], [], [0, 1], [5, 6, 7, 8]), ([0, 1, 2, 3, 4, 5, 6, 7, 8, 9], [], [], [0, 1], [0, 1, 2, 3, 4, 5, 6, 7, 8, 9]), ([0, 1, 2, 3, 4, 5, 6, 7, 8, 9, 10], [], [], [0, 1], [0, 1, 2, 3, 4, 5, 6, 7, 8, 9, 10]), ([0, 1, 2, 3, 4, 5, 6, 7, 8, 9, 10, 11], [], [], [0, 1], [0, 1, 2, 3, 4, 5, 6, 7, 8, 9, 10, 11]), ([0, 1, 2, 3, 4, 5, 6, 7, 8, 9, 10, 11], [], [], [0, 1], [0, 1, 2, 3, 4, 5, 6, 7, 8, 9, 10, 11]), ([], [], [], [0, 1], []), ([0, 1, 2, 3, 4, 5, 6, 7, 8, 9, 10, 11, 12, 14], [], [14], [0, 1], [0, 1, 2, 3, 4, 5, 6, 7, 8, 9, 10, 11, 12])] [0, 1] [0, 1, 2, 3, 4, 5, 6, 7, 8, 9, 10, 11, 12, 13, 15] rfl rfl (by kernel_rfl) ?_
    refine qp_v (fun xs gs hx => q_move rfl) ?_
    refine qp_v (fun xs gs hx => q_move rfl) ?_
    refine qp_v (fun xs gs hx => q_idxRdN (m := i) Try.underlying37 sz36 rfl rfl (by omega) (Reads.own hA H9) (by rw [hL]; omega)) ?_
    refine qp_v (fun xs gs hx => q_fldRd fo36_0 (by decide) rfl rfl) ?_
    refine qp_v (fun xs gs hx => q_loadsRd Try.underlying25 rfl sz25 rfl (Reads.own hA H9) hpo hlo (by omega)) ?_
    refine qp_v (fun xs gs hx => q_move rfl) ?_
    refine qp_v (fun xs gs hx => q_move rfl) ?_
    refine qp_v (fun xs gs hx => q_idxRdN (m := i) Try.underlying37 sz36 rfl rfl (by omega) (Reads.own hA H9) (by rw [hL]; omega)) ?_
    refine qp_v (fun xs gs hx => q_fldRd fo36_1 (by decide) rfl rfl) ?_
    refine qp_v (fun xs gs hx => q_loadsRd Try.underlying23 rfl sz23 rfl (Reads.own hA H9) hpq hlq (by omega)) ?_
    refine qp_v (fun xs gs hx => q_callV Try.func18 rfl rfl rfl (fun w1 H1 => hcc w1)) ?_
    refine qp_v (fun xs gs hx => q_move rfl) ?_
    refine qp_v (fun xs gs hx => q_ext rfl rfl) ?_
    refine qp_v (fun xs gs hx => q_ext rfl rfl) ?_
    refine qp_a (fun xs gs hx => q_alloc zr23 rfl) ?_
    refine qp_storeN (fun xs gs hx => rfl) (fun xs gs hx => hx.1 rfl) (fun xs gs hx => rfl) (fun xs gs hx => List.append_nil _) sz23 (fun xs gs hx => by first | with_reducible assumption | omega | exact lz | rfl) (fun xs gs hx => by first | (with_reducible first | exact bys_one _ | exact u32s_one _ | exact u64s_one _ | exact i64s_one _ | exact n64s_one _ | assumption) | exact bys_one _ | exact u32s_one _ | exact u64s_one _ | exact i64s_one _ | exact one_all rfl | (refine app_one ?_ ?_ <;> first | exact bys_one _ | exact one_all rfl | (simp; done))) (fun xs gs hx => by first | with_reducible assumption | omega | exact lz | rfl) ?_
    refine qp_end ?_
    intro xs gs hx
    obtain ⟨⟨b6, e6⟩, _, _⟩ := hx
    simp only [selI, ownsA, List.contains_cons, List.contains_nil, Nat.reduceBEq, Nat.reduceAdd, Bool.or_false, Bool.or_true, Bool.false_or, Bool.true_or, mask, nRow, nBlk, nRowT, tupAt_0, tupAt_1, List.append_assoc, List.nil_append, List.append_nil, List.cons_append, List.singleton_append, e6]
    refine VL.keep (Sub.cons (s := 0) rfl (Sub.cons (s := 2) rfl (Sub.cons (s := 3) rfl (Sub.cons (s := 4) rfl (Sub.cons (s := 5) rfl (Sub.cons (s := 11) rfl (Sub.cons (s := 27) rfl (Sub.cons (s := 6) rfl (Sub.nil _))))))))) ?_
    refine vl_v (q_assign rfl) rfl ?_
    refine vl_nil ?_
    refine (qn_n (th_n ?_))
    refine VC_seq ?_
    refine VC_seq ?_
    dsimp only [List.cons_append, List.nil_append]
    refine VC_region ?_
    refine vl_v (q_move rfl) rfl ?_
    refine vl_v (q_as (v := .bool (decide (¬ comE r = 0))) (q_neq_n (q := 0) Try.underlying29 rfl rfl) (by simp)) rfl ?_
    refine vl_nil ?_
    refine (th_n ?_)
    refine VC_cond rfl (fun ht29 => ?_) (fun ht29 => ?_)
    · skip
      have ht29 := of_decide_eq_true ht29
      refine VC_seq ?_
      refine VC_region ?_
      refine vl_v (q_build (c' := bys (List.replicate 32 0)) rfl (by kernel_rfl)) rfl ?_
      refine vl_v (q_move rfl) rfl ?_
      refine l_storeA 1 rfl rfl rfl sz23 (by with_reducible assumption) (by with_reducible first | exact bys_one _ | exact u32s_one _ | exact u64s_one _ | exact i64s_one _ | exact n64s_one _ | assumption) (by with_reducible assumption) ?_
      simp only [List.set_cons_zero, List.set_cons_succ]
      refine vl_v (q_assign rfl) rfl ?_
      refine vl_nil ?_
      refine (th_n ?_)
      refine VC_ret ?_
      refine (th_r (bl_r (th_r (th_r (bl_r (th_r ?_))))))
      refine ⟨_, resC2 1 rfl Try.underlying23 rfl rfl rfl sz23 (by with_reducible assumption) rfl, ?_⟩
      first
      | (have h12 : bd = 12 := hbd.symm.trans (hbad ht29)
         have hc12 := (comE_cases r).resolve_left ht29
         rw [hk1 (by omega), hc12, h12]
         exact rfl)
      | (rw [hk0 rfl]; exact rfl)
    · skip
      have hce := Decidable.not_not.1 (of_decide_eq_false ht29)
      refine VC_skip ?_
      refine (th_n ?_)
      refine VC_region ?_
      refine vl_v (q_move rfl) rfl ?_
      refine l_litA (cs := bys []) Try.underlying45 in5 (by decide) rfl rfl rfl rfl (by exact one_all rfl) rfl rfl ?_
      intro b33
      refine vl_v (q_slcA Try.underlying23 sz5 rfl rfl rfl rfl (.inl rfl) (by omega) (by omega) (by omega) (by omega) (by (try simp only [Nat.mul_one, Nat.zero_add, Nat.zero_mul, Nat.mul_zero, Nat.add_zero]) <;> rfl)) rfl ?_
      refine l_append 0 rfl rfl rfl Try.underlying45 Try.underlying45 in5 rfl (by decide) (Reads.blk 3 rfl) (by with_reducible assumption) (by with_reducible first | exact bys_one _ | exact u32s_one _ | exact u64s_one _ | exact i64s_one _ | exact n64s_one _ | assumption) (by omega) (by omega) rfl ?_
      intro A35 c35 hc35
      simp only [List.set_cons_zero, List.set_cons_succ, ← bys_append, ← u32s_append, ← u64s_append, ← i64s_append, List.nil_append, Nat.zero_add]
      refine l_lit Try.underlying51 in45 (by decide) rfl (ps := [(0, .slice A35 32 c35)]) rfl rfl (by intro p hp; rw [List.mem_singleton] at hp; subst hp; exact ⟨rfl, Nat.zero_lt_one⟩) rfl ?_
      intro b36
      dsimp only [fillL, List.replicate, List.set, List.foldl]
      refine l_append 2 rfl rfl rfl Try.underlying51 Try.underlying51 in45 rfl (by decide) (Reads.row 0 rfl) (by rfl) (by exact one_all rfl) (by omega) (by omega) rfl ?_
      intro A37 c37 hc37
      simp only [List.set_cons_zero, List.set_cons_succ, ← bys_append, ← u32s_append, ← u64s_append, ← i64s_append, List.nil_append, Nat.zero_add]
      refine vl_v (q_assign rfl) rfl ?_
      refine vl_nil ?_
      refine (bl_n (th_n ?_))
      refine VC_region ?_
      refine vl_v (q_move rfl) rfl ?_
      refine vl_v (q_add_n (q := 1) rfl rfl (by omega)) rfl ?_
      refine vl_v (q_assign rfl) rfl ?_
      refine vl_nil ?_
      refine (th_n ?_)
      refine ⟨(i + 1, (A37, c37), es ++ [(r, (A35, c35))]), ⟨by show i + 1 ≤ n; omega, by show badL (its.take (i + 1)) = 0; rw [htk, badL_snoc, hr, badN_0 hce]; exact hb0, by show (es ++ [(r, (A35, c35))]).map Prod.fst = (its.take (i + 1)).map comI; rw [htk, List.map_append, List.map_append, hes, ← hr]; rfl⟩, by show n - (i + 1) < n - i; omega, (Sub.cons (s := 0) rfl (Sub.cons (s := 2) rfl (Sub.cons (s := 3) rfl (Sub.cons (s := 4) rfl (Sub.cons (s := 5) rfl (Sub.nil _)))))), fun w H => by have h9 := St.pickR (R := elemsR es.reverse) 5 H (ks := [2, 3, 1]) (by decide) (by decide) rfl rfl; dsimp only; rw [elemsV_snoc, elemsR_snoc]; exact h9⟩
  · skip
    have ht11 := of_decide_eq_false ht11
    obtain rfl : i = n := by omega
    rw [List.take_of_length_le (by omega)] at hb0 hes
    rw [hbd] at hb0
    subst hb0
    subst hn
    refine VC_exit ?_
    refine (th_x (th_x (bl_xs (th_n ?_))))
    refine VC_seq ?_
    refine VC_region ?_
    refine vl_v (q_build (c' := bys (List.replicate 32 0)) rfl (by kernel_rfl)) rfl ?_
    refine vl_v (q_move rfl) rfl ?_
    refine l_callR Try.func20 rfl rfl rfl (fun w1 H1 => hjl ▸ rjoin_calls (its.map comI) _ w1 (elems_rows hes H1 0 rfl (fun e h => List.mem_append_right [_, _] (List.mem_map.2 ⟨e, List.mem_reverse.2 h, rfl⟩))) (by rw [hjl]; omega) (by rw [List.length_map]; omega)) rfl ?_
    intro A40 c40 hc40 hm40
    refine vl_v (q_callV Try.func19 rfl rfl rfl (fun w1 H1 => hdc _ _ w1 (Reads.row 0 rfl w1 H1) (by omega))) rfl ?_
    refine l_storeA 2 rfl rfl rfl sz23 (by with_reducible assumption) (by with_reducible first | exact bys_one _ | exact u32s_one _ | exact u64s_one _ | exact i64s_one _ | exact n64s_one _ | assumption) (by with_reducible assumption) ?_
    simp only [List.set_cons_zero, List.set_cons_succ]
    refine vl_v (q_assign rfl) rfl ?_
    refine vl_nil ?_
    refine (th_n ?_)
    refine VC_ret ?_
    refine ⟨_, resC2 2 rfl Try.underlying23 rfl rfl rfl sz23 (by with_reducible assumption) rfl, ?_⟩
    first
    | (have h12 : bd = 12 := hbd.symm.trans (hbad ht29)
       have hc12 := (comE_cases r).resolve_left ht29
       rw [hk1 (by omega), hc12, h12]
       exact rfl)
    | (rw [hk0 rfl]; exact rfl)
end Go.Proofs.Ytabmfndiepmcgaa
end
section
namespace Go.Proofs.Ytabmfndiepmcgaa
open Go.RowKit Go.PBYtabmfndiepmcgaa
set_option linter.unusedVariables false
set_option linter.unusedSimpArgs false
set_option maxRecDepth 10000
theorem row96_built {a b : List UInt8} (ha : a.length = 64) (hb : b.length = 32) {p : List UInt8} (hp : a ++ b = p) : (flatV [.agg (bys a).toArray, .agg (bys b).toArray]) = bys p := by
  simp only [flatV, cellsL, Value.cells, List.map_cons, List.map_nil, List.flatten_cons, List.flatten_nil, List.append_nil, ← hp, bys_append]
theorem ownL_built {a b c : List UInt8} {h : Bool} (ha : a.length = 64) (hb : b.length = 64) (hc : c.length = 64) : (flatV [.agg (bys a).toArray, .agg (bys b).toArray, .agg (bys c).toArray, .bool h]) = c3 a b c h := by
  simp only [flatV, cellsL, Value.cells, List.map_cons, List.map_nil, List.flatten_cons, List.flatten_nil, List.append_nil, c3]
set_option maxHeartbeats 2000000 in
theorem rbegin_true_calls (id fr i s c : List UInt8) (hid : id.length = 64) (hfr : fr.length = 64) (hi : i.length = 32) (hs : s.length = 32) (hc : c.length = 32) (w : World) :
    Calls Try.prog 9 #[.agg (bys id).toArray, .agg (bys fr).toArray, .agg (c3 i s c true).toArray] w fun e w' => e = .returned (.tuple #[.agg (bys (agK [(id, s), (fr, i), (fr, s), (fr, c)])).toArray, vN (badL [(id, s), (fr, i), (fr, s), (fr, c)])]) ∧ Kept [] w w' := by
  have hok : ∀ x ∈ [(id, s), (fr, i), (fr, s), (fr, c)], okI x := by
    intro x hx
    simp only [List.mem_cons, List.not_mem_nil, or_false] at hx
    rcases hx with rfl | rfl | rfl | rfl
    · exact ⟨hid, hs⟩
    · exact ⟨hfr, hi⟩
    · exact ⟨hfr, hs⟩
    · exact ⟨hfr, hc⟩
  have hrows : rowsL [(id, s), (fr, i), (fr, s), (fr, c)] = bys (id ++ s) ++ (bys (fr ++ i) ++ (bys (fr ++ s) ++ bys (fr ++ c))) := by
    unfold rowsL
    simp only [List.map_cons, List.map_nil, List.flatten_cons, List.flatten_nil, List.append_nil]
  have hlen : List.length [(id, s), (fr, i), (fr, s), (fr, c)] = 4 := by simp
  have lag := agK_length [(id, s), (fr, i), (fr, s), (fr, c)]
  have hof := fun A n k hn h w hA => rkof_calls [(id, s), (fr, i), (fr, s), (fr, c)] A n k hn hok h w hA
  obtain ⟨its, hits⟩ : ∃ l, [(id, s), (fr, i), (fr, s), (fr, c)] = l := ⟨_, rfl⟩
  rw [hits] at hrows hof hlen lag ⊢
  rw [hrows] at hof
  obtain ⟨ag, hag⟩ : ∃ m, agK its = m := ⟨_, rfl⟩
  obtain ⟨bd, hbd⟩ : ∃ m, badL its = m := ⟨_, rfl⟩
  rw [hag] at lag hof ⊢
  rw [hbd] at hof ⊢
  clear hits hag hbd hok hrows
  obtain ⟨r1, e1⟩ : ∃ r, id ++ s = r := ⟨_, rfl⟩
  obtain ⟨r2, e2⟩ : ∃ r, fr ++ i = r := ⟨_, rfl⟩
  obtain ⟨r3, e3⟩ : ∃ r, fr ++ s = r := ⟨_, rfl⟩
  obtain ⟨r4, e4⟩ : ∃ r, fr ++ c = r := ⟨_, rfl⟩
  rw [e1, e2, e3, e4] at hof
  have m1 : (bys r1).length = 96 := by rw [bys_length, ← e1, List.length_append]; omega
  have m2 : (bys r2).length = 96 := by rw [bys_length, ← e2, List.length_append]; omega
  have m3 : (bys r3).length = 96 := by rw [bys_length, ← e3, List.length_append]; omega
  have m4 : (bys r4).length = 96 := by rw [bys_length, ← e4, List.length_append]; omega
  have lbag : (bys ag).length = 32 := by rw [bys_length]; exact lag
  have lz : (bys (List.replicate 32 0)).length = 32 := by rw [bys_length, List.length_replicate]
  have hF := c3_f (n := 32) (h := true) hi hs hc
  obtain ⟨h0, p0, p1, p2, p3⟩ := hF
  obtain ⟨bu, hbu⟩ : ∃ v, c3 i s c true = v := ⟨_, rfl⟩
  rw [hbu] at h0 p0 p1 p2 p3 ⊢
  have lid : (bys id).length = 64 := by rw [bys_length]; exact hid
  have lfr : (bys fr).length = 64 := by rw [bys_length]; exact hfr
  have li : (bys i).length = 32 := by rw [bys_length]; exact hi
  have ls : (bys s).length = 32 := by rw [bys_length]; exact hs
  have lc : (bys c).length = 32 := by rw [bys_length]; exact hc
  refine enter (n := 35) (R := fun e M => e = .returned (.tuple #[.agg (bys ag).toArray, vN bd])) [.agg (bys id).toArray, .agg (bys fr).toArray, .agg bu.toArray] Try.func9 rfl rfl rfl (St.refl w) ?_ (fun e w' L' h H => ⟨h, H.kept⟩)
  refine VC_seq ?_
  refine VC_region ?_
  refine l_boxA rfl rfl ?_
  intro b3
  refine l_boxA rfl rfl ?_
  intro b4
  refine l_boxA rfl rfl ?_
  intro b5
  refine l_allocA zr23 rfl ?_
  intro b6
  refine vl_v (q_assign rfl) rfl ?_
  refine vl_nil ?_
  refine (th_n ?_)
  refine VC_seq ?_
  refine VC_region ?_
  refine vl_v (q_loads 3 Try.underlying25 rfl rfl rfl sz25 (by with_reducible assumption)) rfl ?_
  refine vl_v (q_fldA fo27_1 (by decide) rfl rfl) rfl ?_
  refine vl_v (q_loadsAt 1 Try.underlying23 rfl rfl rfl sz23 p1 ls) rfl ?_
  refine vl_v (q_buildS (tot := 96) (sizes := [64, 32]) (c' := bys r1) (by kernel_rfl) rfl rfl rfl rfl (by simp only [List.map_cons, List.map_nil, cellsL, Value.cells, lid, ls]) (row96_built hid hs e1)) rfl ?_
  refine vl_v (q_loads 2 Try.underlying25 rfl rfl rfl sz25 (by with_reducible assumption)) rfl ?_
  refine vl_v (q_fldA fo27_0 (by decide) rfl rfl) rfl ?_
  refine vl_v (q_loadsAt 1 Try.underlying23 rfl rfl rfl sz23 p0 li) rfl ?_
  refine vl_v (q_buildS (tot := 96) (sizes := [64, 32]) (c' := bys r2) (by kernel_rfl) rfl rfl rfl rfl (by simp only [List.map_cons, List.map_nil, cellsL, Value.cells, lfr, li]) (row96_built hfr hi e2)) rfl ?_
  refine vl_v (q_loads 2 Try.underlying25 rfl rfl rfl sz25 (by with_reducible assumption)) rfl ?_
  refine vl_v (q_fldA fo27_1 (by decide) rfl rfl) rfl ?_
  refine vl_v (q_loadsAt 1 Try.underlying23 rfl rfl rfl sz23 p1 ls) rfl ?_
  refine vl_v (q_buildS (tot := 96) (sizes := [64, 32]) (c' := bys r3) (by kernel_rfl) rfl rfl rfl rfl (by simp only [List.map_cons, List.map_nil, cellsL, Value.cells, lfr, ls]) (row96_built hfr hs e3)) rfl ?_
  refine l_litG [bys r1, bys r2, bys r3] Try.underlying37 in36 (by decide) (by decide) rfl rfl rfl (by intro v hv; simp only [List.mem_cons, List.not_mem_nil, or_false] at hv; rcases hv with rfl | rfl | rfl <;> assumption) rfl ?_
  intro b21
  simp only [List.flatten_cons, List.flatten_nil, List.append_nil]
  refine vl_v (q_assign rfl) rfl ?_
  refine vl_nil ?_
  refine (th_n ?_)
  refine VC_seq ?_
  refine VC_seq ?_
  refine VC_region ?_
  refine vl_v (q_fldA fo27_3 (by decide) rfl rfl) rfl ?_
  refine vl_v (q_load 2 Try.underlying4 rfl rfl rfl p3) rfl ?_
  refine vl_nil ?_
  refine (th_n ?_)
  refine VC_yes (rfl) ?_
  refine VC_region ?_
  refine vl_v (q_move rfl) rfl ?_
  refine vl_v (q_loads 3 Try.underlying25 rfl rfl rfl sz25 (by with_reducible assumption)) rfl ?_
  refine vl_v (q_fldA fo27_2 (by decide) rfl rfl) rfl ?_
  refine vl_v (q_loadsAt 2 Try.underlying23 rfl rfl rfl sz23 p2 lc) rfl ?_
  refine vl_v (q_buildS (tot := 96) (sizes := [64, 32]) (c' := bys r4) (by kernel_rfl) rfl rfl rfl rfl (by simp only [List.map_cons, List.map_nil, cellsL, Value.cells, lfr, lc]) (row96_built hfr hc e4)) rfl ?_
  refine l_litG [bys r4] Try.underlying37 in36 (by decide) (by decide) rfl rfl rfl (by intro v hv; rw [List.mem_singleton] at hv; subst hv; exact m4) rfl ?_
  intro b29
  simp only [List.flatten_cons, List.flatten_nil, List.append_nil]
  refine l_append 1 rfl rfl rfl Try.underlying37 Try.underlying37 in36 rfl (by decide) (Reads.row 0 rfl) (by with_reducible assumption) (by with_reducible first | exact bys_one _ | exact u32s_one _ | exact u64s_one _ | exact i64s_one _ | exact n64s_one _ | assumption) (by omega) (by omega) rfl ?_
  intro A30 c30 hc30
  simp only [List.set_cons_zero, List.set_cons_succ, ← bys_append, ← u32s_append, ← u64s_append, ← i64s_append, List.nil_append, Nat.zero_add]
  refine vl_v (q_assign rfl) rfl ?_
  refine vl_nil ?_
  refine (th_n ?_)
  refine VC_seq ?_
  refine VC_region ?_
  refine vl_v (q_move rfl) rfl ?_
  refine vl_v (q_callV Try.func11 rfl rfl rfl (fun w1 H1 => hof _ _ _ (by omega) (by omega) w1 (by have := Reads.row 1 rfl w1 H1; simpa only [bys_append, List.append_assoc] using this))) rfl ?_
  refine vl_v (q_ext rfl rfl) rfl ?_
  refine vl_v (q_ext rfl rfl) rfl ?_
  refine l_storeA 2 rfl rfl rfl sz23 (by with_reducible assumption) (by with_reducible first | exact bys_one _ | exact u32s_one _ | exact u64s_one _ | exact i64s_one _ | exact n64s_one _ | assumption) (by with_reducible assumption) ?_
  simp only [List.set_cons_zero, List.set_cons_succ]
  refine vl_v (q_assign rfl) rfl ?_
  refine vl_nil ?_
  refine (th_n ?_)
  refine VC_ret ?_
  refine ⟨_, resC2 2 rfl Try.underlying23 rfl rfl rfl sz23 (by with_reducible assumption) rfl, ?_⟩
  exact rfl
set_option maxHeartbeats 2000000 in
theorem rbegin_false_calls (id fr i s c : List UInt8) (hid : id.length = 64) (hfr : fr.length = 64) (hi : i.length = 32) (hs : s.length = 32) (hc : c.length = 32) (w : World) :
    Calls Try.prog 9 #[.agg (bys id).toArray, .agg (bys fr).toArray, .agg (c3 i s c false).toArray] w fun e w' => e = .returned (.tuple #[.agg (bys (agK [(id, s), (fr, i), (fr, s)])).toArray, vN (badL [(id, s), (fr, i), (fr, s)])]) ∧ Kept [] w w' := by
  have hok : ∀ x ∈ [(id, s), (fr, i), (fr, s)], okI x := by
    intro x hx
    simp only [List.mem_cons, List.not_mem_nil, or_false] at hx
    rcases hx with rfl | rfl | rfl
    · exact ⟨hid, hs⟩
    · exact ⟨hfr, hi⟩
    · exact ⟨hfr, hs⟩
  have hrows : rowsL [(id, s), (fr, i), (fr, s)] = bys (id ++ s) ++ (bys (fr ++ i) ++ bys (fr ++ s)) := by
    unfold rowsL
    simp only [List.map_cons, List.map_nil, List.flatten_cons, List.flatten_nil, List.append_nil]
  have hlen : List.length [(id, s), (fr, i), (fr, s)] = 3 := by simp
  have lag := agK_length [(id, s), (fr, i), (fr, s)]
  have hof := fun A n k hn h w hA => rkof_calls [(id, s), (fr, i), (fr, s)] A n k hn hok h w hA
  obtain ⟨its, hits⟩ : ∃ l, [(id, s), (fr, i), (fr, s)] = l := ⟨_, rfl⟩
  rw [hits] at hrows hof hlen lag ⊢
  rw [hrows] at hof
  obtain ⟨ag, hag⟩ : ∃ m, agK its = m := ⟨_, rfl⟩
  obtain ⟨bd, hbd⟩ : ∃ m, badL its = m := ⟨_, rfl⟩
  rw [hag] at lag hof ⊢
  rw [hbd] at hof ⊢
  clear hits hag hbd hok hrows
  obtain ⟨r1, e1⟩ : ∃ r, id ++ s = r := ⟨_, rfl⟩
  obtain ⟨r2, e2⟩ : ∃ r, fr ++ i = r := ⟨_, rfl⟩
  obtain ⟨r3, e3⟩ : ∃ r, fr ++ s = r := ⟨_, rfl⟩
  obtain ⟨r4, e4⟩ : ∃ r, fr ++ c = r := ⟨_, rfl⟩
  rw [e1, e2, e3] at hof
  have m1 : (bys r1).length = 96 := by rw [bys_length, ← e1, List.length_append]; omega
  have m2 : (bys r2).length = 96 := by rw [bys_length, ← e2, List.length_append]; omega
  have m3 : (bys r3).length = 96 := by rw [bys_length, ← e3, List.length_append]; omega
  have m4 : (bys r4).length = 96 := by rw [bys_length, ← e4, List.length_append]; omega
  have lbag : (bys ag).length = 32 := by rw [bys_length]; exact lag
  have lz : (bys (List.replicate 32 0)).length = 32 := by rw [bys_length, List.length_replicate]
  have hF := c3_f (n := 32) (h := false) hi hs hc
  obtain ⟨h0, p0, p1, p2, p3⟩ := hF
  obtain ⟨bu, hbu⟩ : ∃ v, c3 i s c false = v := ⟨_, rfl⟩
  rw [hbu] at h0 p0 p1 p2 p3 ⊢
  have lid : (bys id).length = 64 := by rw [bys_length]; exact hid
  have lfr : (bys fr).length = 64 := by rw [bys_length]; exact hfr
  have li : (bys i).length = 32 := by rw [bys_length]; exact hi
  have ls : (bys s).length = 32 := by rw [bys_length]; exact hs
  have lc : (bys c).length = 32 := by rw [bys_length]; exact hc
  refine enter (n := 35) (R := fun e M => e = .returned (.tuple #[.agg (bys ag).toArray, vN bd])) [.agg (bys id).toArray, .agg (bys fr).toArray, .agg bu.toArray] Try.func9 rfl rfl rfl (St.refl w) ?_ (fun e w' L' h H => ⟨h, H.kept⟩)
  refine VC_seq ?_
  refine VC_region ?_
  refine l_boxA rfl rfl ?_
  intro b3
  refine l_boxA rfl rfl ?_
  intro b4
  refine l_boxA rfl rfl ?_
  intro b5
  refine l_allocA zr23 rfl ?_
  intro b6
  refine vl_v (q_assign rfl) rfl ?_
  refine vl_nil ?_
  refine (th_n ?_)
  refine VC_seq ?_
  refine VC_region ?_
  refine vl_v (q_loads 3 Try.underlying25 rfl rfl rfl sz25 (by with_reducible assumption)) rfl ?_
  refine vl_v (q_fldA fo27_1 (by decide) rfl rfl) rfl ?_
  refine vl_v (q_loadsAt 1 Try.underlying23 rfl rfl rfl sz23 p1 ls) rfl ?_
  refine vl_v (q_buildS (tot := 96) (sizes := [64, 32]) (c' := bys r1) (by kernel_rfl) rfl rfl rfl rfl (by simp only [List.map_cons, List.map_nil, cellsL, Value.cells, lid, ls]) (row96_built hid hs e1)) rfl ?_
  refine vl_v (q_loads 2 Try.underlying25 rfl rfl rfl sz25 (by with_reducible assumption)) rfl ?_
  refine vl_v (q_fldA fo27_0 (by decide) rfl rfl) rfl ?_
  refine vl_v (q_loadsAt 1 Try.underlying23 rfl rfl rfl sz23 p0 li) rfl ?_
  refine vl_v (q_buildS (tot := 96) (sizes := [64, 32]) (c' := bys r2) (by kernel_rfl) rfl rfl rfl rfl (by simp only [List.map_cons, List.map_nil, cellsL, Value.cells, lfr, li]) (row96_built hfr hi e2)) rfl ?_
  refine vl_v (q_loads 2 Try.underlying25 rfl rfl rfl sz25 (by with_reducible assumption)) rfl ?_
  refine vl_v (q_fldA fo27_1 (by decide) rfl rfl) rfl ?_
  refine vl_v (q_loadsAt 1 Try.underlying23 rfl rfl rfl sz23 p1 ls) rfl ?_
  refine vl_v (q_buildS (tot := 96) (sizes := [64, 32]) (c' := bys r3) (by kernel_rfl) rfl rfl rfl rfl (by simp only [List.map_cons, List.map_nil, cellsL, Value.cells, lfr, ls]) (row96_built hfr hs e3)) rfl ?_
  refine l_litG [bys r1, bys r2, bys r3] Try.underlying37 in36 (by decide) (by decide) rfl rfl rfl (by intro v hv; simp only [List.mem_cons, List.not_mem_nil, or_false] at hv; rcases hv with rfl | rfl | rfl <;> assumption) rfl ?_
  intro b21
  simp only [List.flatten_cons, List.flatten_nil, List.append_nil]
  refine vl_v (q_assign rfl) rfl ?_
  refine vl_nil ?_
  refine (th_n ?_)
  refine VC_seq ?_
  refine VC_seq ?_
  refine VC_region ?_
  refine vl_v (q_fldA fo27_3 (by decide) rfl rfl) rfl ?_
  refine vl_v (q_load 2 Try.underlying4 rfl rfl rfl p3) rfl ?_
  refine vl_nil ?_
  refine (th_n ?_)
  refine VC_no (rfl) ?_
  refine VC_skip ?_
  refine (th_n ?_)
  refine VC_seq ?_
  refine VC_region ?_
  refine vl_v (q_move rfl) rfl ?_
  refine vl_v (q_callV Try.func11 rfl rfl rfl (fun w1 H1 => hof _ _ _ (by omega) (by omega) w1 (Reads.row 0 rfl w1 H1))) rfl ?_
  refine vl_v (q_ext rfl rfl) rfl ?_
  refine vl_v (q_ext rfl rfl) rfl ?_
  refine l_storeA 1 rfl rfl rfl sz23 (by with_reducible assumption) (by with_reducible first | exact bys_one _ | exact u32s_one _ | exact u64s_one _ | exact i64s_one _ | exact n64s_one _ | assumption) (by with_reducible assumption) ?_
  simp only [List.set_cons_zero, List.set_cons_succ]
  refine vl_v (q_assign rfl) rfl ?_
  refine vl_nil ?_
  refine (th_n ?_)
  refine VC_ret ?_
  refine ⟨_, resC2 1 rfl Try.underlying23 rfl rfl rfl sz23 (by with_reducible assumption) rfl, ?_⟩
  exact rfl
def ownI (x : UInt8) : List UInt8 := pairB [x, 1]
def ownS (x : UInt8) : List UInt8 := pairB [x, 2]
def ownO (x : UInt8) : List UInt8 := pairB [x, 3]
set_option maxHeartbeats 2000000 in
theorem own_calls (x : UInt8) (h : Bool) (w : World) :
    Calls Try.prog 13 #[vU8 x, .bool h] w fun e w' => e = .returned (.agg (c3 (ownI x) (ownS x) (ownO x) h).toArray) ∧ Kept [] w w' := by
  have l1 := pairB_length [x, 1]
  have l2 := pairB_length [x, 2]
  have l3 := pairB_length [x, 3]
  have c1 := fun B m cb hm w hB hcb => rpair_calls [x, 1] B m cb hm (by simp) w hB hcb
  have c2 := fun B m cb hm w hB hcb => rpair_calls [x, 2] B m cb hm (by simp) w hB hcb
  have c3_ := fun B m cb hm w hB hcb => rpair_calls [x, 3] B m cb hm (by simp) w hB hcb
  unfold ownI ownS ownO
  obtain ⟨p1, e1⟩ : ∃ p, pairB [x, 1] = p := ⟨_, rfl⟩
  obtain ⟨p2, e2⟩ : ∃ p, pairB [x, 2] = p := ⟨_, rfl⟩
  obtain ⟨p3, e3⟩ : ∃ p, pairB [x, 3] = p := ⟨_, rfl⟩
  rw [e1] at l1 c1 ⊢
  rw [e2] at l2 c2 ⊢
  rw [e3] at l3 c3_ ⊢
  have b1 : (bys p1).length = 64 := by rw [bys_length]; exact l1
  have b2 : (bys p2).length = 64 := by rw [bys_length]; exact l2
  have b3 : (bys p3).length = 64 := by rw [bys_length]; exact l3
  have f0 := (c3_f (h := h) l1 l2 l3).len
  have g0 := c3_one p1 p2 p3 h
  have hz : (List.replicate 64 (0 : UInt8)).length = 64 := by simp
  have fz := (c3_f (h := false) hz hz hz).len
  have ez : bys (List.replicate 32 0) ++ bys (List.replicate 32 0) ++ bys (List.replicate 32 0) ++ bys (List.replicate 32 0) ++ bys (List.replicate 32 0) ++ bys (List.replicate 32 0) ++ [Value.bool false] = c3 (List.replicate 64 0) (List.replicate 64 0) (List.replicate 64 0) false := by kernel_rfl
  refine enter (n := 16) (R := fun e M => e = .returned (.agg (c3 p1 p2 p3 h).toArray)) [vU8 x, .bool h] Try.func13 rfl rfl rfl (St.refl w) ?_ (fun e w' L' h H => ⟨h, H.kept⟩)
  refine VC_seq ?_
  refine VC_region ?_
  refine l_allocA zr34 rfl ?_
  intro b4
  refine vl_nil ?_
  refine (th_n ?_)
  refine VC_seq ?_
  refine VC_region ?_
  refine vl_v (q_move rfl) rfl ?_
  refine l_litA (cs := bys [_, UInt8.ofNat 1]) Try.underlying45 in5 (by decide) rfl rfl rfl rfl (by exact one_all rfl) rfl rfl ?_
  intro b6
  refine vl_v (q_callV Try.func14 rfl rfl rfl (fun w1 H1 => c1 _ _ _ rfl w1 (Reads.row 0 rfl w1 H1) (by simp))) rfl ?_
  refine vl_v (q_move rfl) rfl ?_
  refine l_litA (cs := bys [_, UInt8.ofNat 2]) Try.underlying45 in5 (by decide) rfl rfl rfl rfl (by exact one_all rfl) rfl rfl ?_
  intro b9
  refine vl_v (q_callV Try.func14 rfl rfl rfl (fun w1 H1 => c2 _ _ _ rfl w1 (Reads.row 0 rfl w1 H1) (by simp))) rfl ?_
  refine vl_v (q_move rfl) rfl ?_
  refine l_litA (cs := bys [_, UInt8.ofNat 3]) Try.underlying45 in5 (by decide) rfl rfl rfl rfl (by exact one_all rfl) rfl rfl ?_
  intro b12
  refine vl_v (q_callV Try.func14 rfl rfl rfl (fun w1 H1 => c3_ _ _ _ rfl w1 (Reads.row 0 rfl w1 H1) (by simp))) rfl ?_
  refine vl_v (q_move rfl) rfl ?_
  refine vl_v (q_buildS (tot := 193) (sizes := [64, 64, 64, 1]) (c' := c3 p1 p2 p3 h) (by kernel_rfl) rfl rfl rfl rfl (by simp only [List.map_cons, List.map_nil, cellsL, Value.cells, b1, b2, b3]; rfl) (ownL_built l1 l2 l3)) rfl ?_
  refine l_storeA 3 rfl rfl rfl sz34 f0 g0 (by rw [ez]; exact fz) ?_
  simp only [List.set_cons_zero, List.set_cons_succ]
  refine vl_nil ?_
  refine (th_n ?_)
  refine VC_ret ?_
  refine ⟨_, resC1 3 rfl Try.underlying34 rfl rfl rfl sz34 (by with_reducible assumption), ?_⟩
  exact rfl
end Go.Proofs.Ytabmfndiepmcgaa
end
section
namespace Go.PBYtabmfndiepmcgaa
open Go Go.RowKit
set_option linter.unusedVariables false
set_option maxRecDepth 100000
def lN : Nat := 7237005577332262213973186563042994240857116359379907606001950938285454250989
def sl (i : Nat) : Bool := lN / 2 ^ i % 2 == 1
theorem vb_sl : vb sl 255 = lN := by decide +kernel
theorem lad_sl : (ladF (fz 9) g24 sl (beg (fz 9)) 255).2.2.1 = 0 := by decide +kernel
theorem pB_m : 1 - pB.2 ≠ 0 := by decide +kernel
theorem pB_p : 1 + pB.2 ≠ 0 := by decide +kernel
theorem pB_ne : pB ≠ pO := by decide +kernel
theorem pt_one {P : Pt} (hP : onE P) (h : P.2 = 1) : P = pO := Prod.ext (x_zero hP (by rw [h]; decide +kernel)) h
theorem ord_l : pmul lN pB = pO := by
  have h := (lad_rel pB_on (pB_mu ▸ mu_rel pB_m) pB_m pB_p sl 255).1
  rw [vb_sl, lad_sl] at h
  obtain ⟨h1, h2⟩ := h
  refine pt_one (pmul_on pB_on _) ?_
  have h3 : (ladF (fz 9) g24 sl (beg (fz 9)) 255).1 ≠ 0 := fun h0 => h1 ⟨h0, rfl⟩
  generalize (ladF (fz 9) g24 sl (beg (fz 9)) 255).1 = a at h2 h3
  generalize (pmul lN pB).2 = y at h2 ⊢
  have h4 : a * (1 - y) = 0 := by rw [h2]; grind
  rcases mul_zero_or h4 with h4 | h4
  · exact absurd h4 h3
  · grind
theorem pmul_gcd {Q : Pt} (hQ : onE Q) (m n : Nat) : pmul m Q = pO → pmul n Q = pO → pmul (Nat.gcd m n) Q = pO := by
  induction m, n using Nat.gcd.induction with
  | H0 n => intro _ h; simpa using h
  | H1 m n hm ih =>
    intro h1 h2
    rw [Nat.gcd_rec]
    refine ih ?_ h1
    have e : n % m + m * (n / m) = n := Nat.mod_add_div n m
    have h3 := pmul_add hQ (n % m) (m * (n / m))
    rw [e, h2, Nat.mul_comm, pmul_mul hQ, h1, pmul_O, padd_O] at h3
    exact h3.symm
theorem pr_l : Pr lN := pr7237005577332262213973186563042994240857116359379907606001950938285454250989
theorem pr_gcd {p n : Nat} (hp : Pr p) (h : ¬ p ∣ n) : Nat.gcd n p = 1 := by
  rcases hp.2 _ (Nat.gcd_dvd_right n p) with h1 | h1
  · exact h1
  · exact absurd (h1 ▸ Nat.gcd_dvd_left n p) h
theorem ord_dvd {n : Nat} (h : pmul n pB = pO) : lN ∣ n := by
  have h1 := pmul_gcd pB_on n lN h ord_l
  by_cases hd : lN ∣ n
  · exact hd
  exfalso
  have hg : Nat.gcd n lN = 1 := pr_gcd pr_l hd
  rw [hg, pmul_one] at h1
  exact pB_ne h1
theorem vb_lt (s : Nat → Bool) : ∀ j, vb s j < 2 ^ j
  | 0 => by show 0 < 1; omega
  | j + 1 => by
    have ih := vb_lt s j
    rw [vb, Nat.pow_succ]
    split <;> omega
theorem vb_ge {s : Nat → Bool} (h : s 254 = true) : ∀ j, 2 ^ j ≤ vb s (j + 1)
  | 0 => by rw [vb, vb, show 254 - 0 = 254 from rfl, h]; decide
  | j + 1 => by
    have ih := vb_ge h j
    rw [vb, Nat.pow_succ]
    split <;> omega
theorem kv_8 (k : List UInt8) : ∃ m, kv k = 8 * m ∧ 0 < m ∧ m < 2 ^ 252 := by
  refine ⟨vb (sbit k) 252, ?_, ?_, vb_lt _ _⟩
  · unfold kv
    rw [show (255 : Nat) = 252 + 1 + 1 + 1 from rfl, vb, vb, vb]
    rw [show sbit k (254 - (252 + 1 + 1)) = false from rfl, show sbit k (254 - (252 + 1)) = false from rfl, show sbit k (254 - 252) = false from rfl]
    simp only [Bool.false_eq_true, if_false]
    omega
  · have h := vb_ge (s := sbit k) rfl 251
    have : 0 < 2 ^ 251 := Nat.pow_pos (by omega)
    show 0 < vb (sbit k) (251 + 1)
    omega
theorem l_kv (k : List UInt8) : ¬ lN ∣ kv k := by
  obtain ⟨m, h1, h2, h3⟩ := kv_8 k
  rw [h1]
  intro h
  rcases pr_l.euclid h with h | h
  · exact absurd (Nat.le_of_dvd (by omega) h) (by decide)
  · have := Nat.le_of_dvd h2 h
    have h4 : (2 : Nat) ^ 252 ≤ lN := by decide +kernel
    omega
theorem two_ne_l : ¬ lN ∣ 2 := fun h => absurd (Nat.le_of_dvd (by omega) h) (by decide)
/-- no such point's number is nought -/
theorem mu_ne {n : Nat} (h : ¬ lN ∣ n) : mu (pmul n pB).2 ≠ 0 := by
  intro h0
  have hon := pmul_on pB_on n
  unfold mu at h0
  rcases mul_zero_or h0 with h1 | h1
  · have hy : (pmul n pB).2 = -1 := by grind
    have hx := x_zero hon (by rw [hy]; decide +kernel)
    have hP : pmul n pB = (0, -1) := Prod.ext hx hy
    have h2 : pmul (2 * n) pB = pO := by rw [pmul_two pB_on, hP, two_half]
    rcases pr_l.euclid (ord_dvd h2) with h3 | h3
    · exact two_ne_l h3
    · exact h h3
  · by_cases h2 : 1 - (pmul n pB).2 = 0
    · exact h (ord_dvd (pt_one hon (by grind)))
    · exact finv_ne h2 h1
theorem xm_two_ne (k l : List UInt8) : xm (sbit k) (xm (sbit l) (fz 9)) ≠ 0 := by
  rw [xm_base, xm_pt]
  refine mu_ne fun h => ?_
  rcases pr_l.euclid h with h | h
  · exact l_kv k h
  · exact l_kv l h
theorem kf_ne {a : Fp} (h : a ≠ 0) : kf a ≠ List.replicate 32 0 := by
  intro h0
  have h1 := lf_kf a
  rw [h0, show lf (List.replicate 32 0) = 0 by decide +kernel] at h1
  exact h h1.symm
end Go.PBYtabmfndiepmcgaa
end
section
namespace Go.Proofs.Ytabmfndiepmcgaa
open Go.RowKit Go.PBYtabmfndiepmcgaa
set_option linter.unusedVariables false
set_option maxRecDepth 100000
theorem xm_eval {s : Nat → Bool} {x v : Fp} (h : (ladF x g24 s (beg x) 255).2.2.1 ≠ 0 ∧ v * (ladF x g24 s (beg x) 255).2.2.1 = (ladF x g24 s (beg x) 255).1) : xm s x = v := by
  unfold xm
  rw [← h.2]
  have := mul_finv h.1
  generalize (ladF x g24 s (beg x) 255).2.2.1 = c at this
  generalize finv c = d at this
  grind
theorem lf_pub (t : List UInt8) : lf (pubB t) = xm (sbit t) (fz 9) := by unfold pubB; rw [lf_kf, show lf (smallB 9) = fz 9 from lf_small 9]
theorem sum_I : sumB [1, 1] = [219, 113, 238, 215, 60, 191, 42, 183, 112, 247, 6, 89, 21, 161, 176, 112, 217, 134, 125, 247, 227, 234, 123, 36, 114, 47, 177, 89, 121, 235, 46, 100] := by decide +kernel
theorem sum_S : sumB [1, 2] = [118, 154, 196, 55, 10, 96, 62, 2, 202, 154, 129, 173, 194, 176, 101, 35, 210, 167, 100, 160, 9, 70, 210, 223, 254, 43, 102, 127, 189, 167, 31, 124] := by decide +kernel
theorem sum_O : sumB [1, 3] = [47, 34, 189, 155, 120, 137, 169, 246, 16, 113, 231, 8, 28, 112, 195, 109, 254, 237, 173, 182, 248, 107, 183, 67, 17, 79, 94, 188, 111, 80, 238, 16] := by decide +kernel
theorem sum_a : sumB [97] = [74, 13, 18, 152, 115, 64, 48, 55, 194, 205, 155, 144, 72, 32, 54, 135, 246, 35, 63, 182, 115, 137, 86, 224, 52, 155, 212, 50, 15, 236, 62, 144] := by decide +kernel
theorem sum_f : sumB [102] = [119, 30, 49, 192, 96, 78, 107, 238, 160, 152, 64, 71, 86, 236, 92, 8, 205, 81, 71, 207, 71, 95, 167, 4, 52, 42, 107, 8, 108, 188, 220, 125] := by decide +kernel
theorem pub_I : xm (sbit [219, 113, 238, 215, 60, 191, 42, 183, 112, 247, 6, 89, 21, 161, 176, 112, 217, 134, 125, 247, 227, 234, 123, 36, 114, 47, 177, 89, 121, 235, 46, 100]) (fz 9) = 51043030654807056867364211552713626945021500540985035414651699097014587142607 := xm_eval (by decide +kernel)
theorem pub_S : xm (sbit [118, 154, 196, 55, 10, 96, 62, 2, 202, 154, 129, 173, 194, 176, 101, 35, 210, 167, 100, 160, 9, 70, 210, 223, 254, 43, 102, 127, 189, 167, 31, 124]) (fz 9) = 2806331023000816175399783028262264285336954865341240080799371704391325513692 := xm_eval (by decide +kernel)
theorem pub_O : xm (sbit [47, 34, 189, 155, 120, 137, 169, 246, 16, 113, 231, 8, 28, 112, 195, 109, 254, 237, 173, 182, 248, 107, 183, 67, 17, 79, 94, 188, 111, 80, 238, 16]) (fz 9) = 16361948858285662959576956082977851744772905520123663608905249792323535065700 := xm_eval (by decide +kernel)
theorem com_aS : comB (sumB [97]) (pubB (sumB [1, 2])) = [161, 217, 230, 229, 10, 117, 159, 241, 143, 38, 190, 189, 133, 55, 226, 226, 106, 131, 239, 197, 93, 223, 69, 153, 128, 100, 153, 241, 118, 179, 36, 11] := by
  unfold comB
  rw [lf_pub, sum_S, pub_S, sum_a, show xm (sbit [74, 13, 18, 152, 115, 64, 48, 55, 194, 205, 155, 144, 72, 32, 54, 135, 246, 35, 63, 182, 115, 137, 86, 224, 52, 155, 212, 50, 15, 236, 62, 144]) 2806331023000816175399783028262264285336954865341240080799371704391325513692 = 5040286448061098685136518760274112470558448414692709320838248653082111433121 from xm_eval (by decide +kernel)]
  decide +kernel
theorem com_fI : comB (sumB [102]) (pubB (sumB [1, 1])) = [191, 157, 21, 201, 113, 54, 191, 20, 246, 185, 34, 54, 0, 68, 156, 116, 22, 182, 119, 68, 137, 128, 187, 234, 99, 154, 8, 180, 96, 37, 110, 65] := by
  unfold comB
  rw [lf_pub, sum_I, pub_I, sum_f, show xm (sbit [119, 30, 49, 192, 96, 78, 107, 238, 160, 152, 64, 71, 86, 236, 92, 8, 205, 81, 71, 207, 71, 95, 167, 4, 52, 42, 107, 8, 108, 188, 220, 125]) 51043030654807056867364211552713626945021500540985035414651699097014587142607 = 29594946306767400422944234654675637105525944240124117336078159612914555002303 from xm_eval (by decide +kernel)]
  decide +kernel
theorem com_fS : comB (sumB [102]) (pubB (sumB [1, 2])) = [100, 189, 128, 231, 45, 18, 0, 168, 184, 217, 126, 205, 48, 169, 218, 155, 253, 31, 207, 91, 67, 100, 56, 211, 179, 97, 159, 114, 57, 215, 131, 87] := by
  unfold comB
  rw [lf_pub, sum_S, pub_S, sum_f, show xm (sbit [119, 30, 49, 192, 96, 78, 107, 238, 160, 152, 64, 71, 86, 236, 92, 8, 205, 81, 71, 207, 71, 95, 167, 4, 52, 42, 107, 8, 108, 188, 220, 125]) 2806331023000816175399783028262264285336954865341240080799371704391325513692 = 39584160216482831192595027850927686478836463896471835652432979301709929037156 from xm_eval (by decide +kernel)]
  decide +kernel
theorem com_fO : comB (sumB [102]) (pubB (sumB [1, 3])) = [95, 59, 42, 89, 200, 54, 14, 26, 42, 108, 227, 15, 27, 133, 43, 231, 44, 60, 183, 108, 168, 97, 69, 239, 252, 193, 241, 23, 176, 69, 32, 31] := by
  unfold comB
  rw [lf_pub, sum_O, pub_O, sum_f, show xm (sbit [119, 30, 49, 192, 96, 78, 107, 238, 160, 152, 64, 71, 86, 236, 92, 8, 205, 81, 71, 207, 71, 95, 167, 4, 52, 42, 107, 8, 108, 188, 220, 125]) 16361948858285662959576956082977851744772905520123663608905249792323535065700 = 14078718380124344390228156979580144473874974134717595803757584310391628512095 from xm_eval (by decide +kernel)]
  decide +kernel
theorem key_ne : ¬ macB (List.replicate 32 0) (joinB [[161, 217, 230, 229, 10, 117, 159, 241, 143, 38, 190, 189, 133, 55, 226, 226, 106, 131, 239, 197, 93, 223, 69, 153, 128, 100, 153, 241, 118, 179, 36, 11], [191, 157, 21, 201, 113, 54, 191, 20, 246, 185, 34, 54, 0, 68, 156, 116, 22, 182, 119, 68, 137, 128, 187, 234, 99, 154, 8, 180, 96, 37, 110, 65], [100, 189, 128, 231, 45, 18, 0, 168, 184, 217, 126, 205, 48, 169, 218, 155, 253, 31, 207, 91, 67, 100, 56, 211, 179, 97, 159, 114, 57, 215, 131, 87], [95, 59, 42, 89, 200, 54, 14, 26, 42, 108, 227, 15, 27, 133, 43, 231, 44, 60, 183, 108, 168, 97, 69, 239, 252, 193, 241, 23, 176, 69, 32, 31]]) = List.replicate 32 0 := by decide +kernel
/-- what one's own secret and another one's public key come to -/
theorem comI_pair (s t : List UInt8) : comI (pairB s, pubK (pairB t)) = comB (sumB s) (pubB (sumB t)) := by
  unfold comI pubK pairB
  simp only
  rw [List.take_left' (sumB_length s), List.drop_left' (sumB_length t), List.take_of_length_le (by rw [pubB_length]; omega)]
theorem comI_turn (s t : List UInt8) : comI (pairB s, pubK (pairB t)) = comI (pairB t, pubK (pairB s)) := by
  rw [comI_pair, comI_pair]
  unfold comB
  rw [lf_pub, lf_pub, xm_two]
theorem comI_ok (s t : List UInt8) : comE (comI (pairB s, pubK (pairB t))) = 0 := by
  rw [comI_pair]
  unfold comE comB
  rw [lf_pub, if_neg (kf_ne (xm_two_ne _ _))]
theorem badL_eq {l m : List (List UInt8 × List UInt8)} (h : l.map comI = m.map comI) : badL l = badL m := by
  have e : ∀ l : List (List UInt8 × List UInt8), badL l = (l.map comI).foldl (fun b r => badN r b) 0 := by
    intro l
    unfold badL
    rw [List.foldl_map]
  rw [e l, e m, h]
theorem agK_eq {l m : List (List UInt8 × List UInt8)} (h : l.map comI = m.map comI) : agK l = agK m := by
  unfold agK
  rw [badL_eq h, h]
theorem fold_same {α β : Type} (f : β → α → β) (b : β) : ∀ l : List α, (∀ i ∈ l, f b i = b) → List.foldl f b l = b
  | [], _ => rfl
  | i :: r, h => by rw [List.foldl_cons, h i (by simp)]; exact fold_same f b r (fun j hj => h j (by simp [hj]))
theorem badL_ok {l : List (List UInt8 × List UInt8)} (h : ∀ i ∈ l, comE (comI i) = 0) : badL l = 0 := fold_same _ 0 l fun i hi => badN_0 (h i hi)
end Go.Proofs.Ytabmfndiepmcgaa
end
section
namespace Go.PBYtabmfndiepmcgaa
open Go Go.RowKit Go.ChangeShapes Go.WideShapes Go.ChangeAt
set_option linter.unusedVariables false
set_option linter.unusedSimpArgs false
section
variable {H : Type} {enc : TypeId × Value → H} {P : Program} {w : World} {r : Reach} {b0 base : Nat} {spare : Nat → Bool} {held : Bool}
/-- a struct's fields, each looked at by itself -/
theorem trod_field {t : TypeId} {fs : Array Field} {fuel : Nat} {cs : List Value} {x : DataW H × List MemPlace} (hu : P.underlying t = some (.struct fs)) (h : DataW.trod enc P w base spare held fuel t cs = some x) :
    cs.length = P.cellsOf t ∧ ∃ m, ∀ f ∈ fs.toList, ∃ y, DataW.trod enc P w base spare held m f.type ((cs.drop f.offset).take (P.cellsOf f.type)) = some y := by
  cases fuel with
  | zero => simp [DataW.trod] at h
  | succ fuel =>
    unfold DataW.trod at h
    rw [hu] at h
    simp only at h
    split at h
    · rename_i hl
      refine ⟨hl, fuel, ?_⟩
      cases hm : (fs.toList.mapM fun f => DataW.trod enc P w base spare held fuel f.type ((cs.drop f.offset).take (P.cellsOf f.type))) with
      | none => rw [hm] at h; simp at h
      | some y =>
        have key : ∀ (l : List Field) (y : List (DataW H × List MemPlace)), (l.mapM fun f => DataW.trod enc P w base spare held fuel f.type ((cs.drop f.offset).take (P.cellsOf f.type))) = some y → ∀ f ∈ l, ∃ y, DataW.trod enc P w base spare held fuel f.type ((cs.drop f.offset).take (P.cellsOf f.type)) = some y := by
          intro l
          induction l with
          | nil => intro y _ f hf; cases hf
          | cons a l ih =>
            intro y hy f hf
            rw [List.mapM_cons] at hy
            cases ha : DataW.trod enc P w base spare held fuel a.type ((cs.drop a.offset).take (P.cellsOf a.type)) with
            | none => rw [ha] at hy; simp at hy
            | some z =>
              rw [ha] at hy
              simp only [Option.pure_def, Option.bind_eq_bind, Option.bind_some] at hy
              cases hr : (l.mapM fun f => DataW.trod enc P w base spare held fuel f.type ((cs.drop f.offset).take (P.cellsOf f.type))) with
              | none => rw [hr] at hy; simp at hy
              | some z' =>
                rcases List.mem_cons.1 hf with rfl | hf
                · exact ⟨z, ha⟩
                · exact ih z' hr f hf
        exact key _ _ hm
    · cases h
theorem okWide_agg {t : TypeId} {v : Value} {fs : Array Field} (hs : P.underlying t = some (.struct fs)) (hv : Value.okWide P w r b0 t v) : ∃ cs : Array Value, v = .agg cs := by
  unfold Value.okWide at hv
  rw [hs] at hv
  obtain ⟨cs, h1, _⟩ := hv
  exact ⟨cs, h1⟩
end
/-! ### keys that hold a bool -/
theorem keyLits_b1 {P : Program} {d : Nat} {t : TypeId} {b : Bool} (hu : P.underlying t = some .bool) : P.keyLits (d + 1) t [.bool b] = some [.bool b] := by
  unfold Program.keyLits
  rw [hu]
theorem keyLits_struct {P : Program} {d : Nat} {t : TypeId} {fs : Array Field} {cs : List Value} (hu : P.underlying t = some (.struct fs)) (hl : cs.length = P.cellsOf t) (hnm : fs.all (fun x => x.name != "_") = true)
    (h : ∀ x ∈ fs.toList, ∃ y, P.keyLits d x.type ((cs.drop x.offset).take (P.cellsOf x.type)) = some y) : ∃ ls, P.keyLits (d + 1) t cs = some ls := by
  unfold Program.keyLits
  rw [hu]
  obtain ⟨ys, hys⟩ := mapM_some (fun x : Field => P.keyLits d x.type ((cs.drop x.offset).take (P.cellsOf x.type))) fs.toList h
  refine ⟨ys.flatten, ?_⟩
  simp only [hl, true_and]
  rw [if_pos hnm, hys]
  rfl
theorem key_of_lits {P : Program} {k : TypeId} {cs ls : List Value} {l : List Lit} (hkt : P.keyType k = true) (hwide : (match P.underlying k with | some (.array _ _) | some (.struct _) => true | _ => false) = true) (hc : cs.length = P.cellsOf k) (hls : P.keyLits (P.types.size + 1) k cs = some l) : ∃ x, keyOf P k (.agg cs.toArray) = some x := by
  have hform : (Value.agg cs.toArray).formed P k = true := by
    unfold Value.formed
    cases hu : P.underlying k with
    | none => rw [hu] at hwide; simp at hwide
    | some d =>
      rw [hu] at hwide
      cases d <;> simp at hwide <;> simp [hc]
  unfold keyOf
  cases hu : P.underlying k with
  | none => rw [hu] at hwide; simp at hwide
  | some d =>
    rw [hu] at hwide
    cases d <;> simp at hwide <;> simp [hkt, hform, Value.cells, hls]
theorem run_eqSelf {P : Program} {k : TypeId} {m : Nat} (hm : m + 1 ≤ 10000) (hk : P.keyTypeAt m k = true) (hwide : (match P.underlying k with | some (.array _ _) | some (.struct _) => true | _ => false) = true) {cs : List Value} (h : ∃ x, keyOf P k (.agg cs.toArray) = some x) (w : World) :
    (binOp .eql k (.agg cs.toArray) (.agg cs.toArray)).run P w = .ok (.bool true) w := by
  obtain ⟨x, hx⟩ := h
  obtain ⟨r, h1, h2⟩ := run_equal_deep w (by omega) hk hwide hx hx
  have hr : r = true := h2.2 rfl
  subst hr
  have h3 : (Op.equalIn 10000 k (.agg cs.toArray) (.agg cs.toArray)).run P w = .ok true w := h1
  rw [run_eql_struct, h3]
  rfl
section
variable {P : Program} {n : Nat} {S : List Nat} {w0 : World} {env : Env} {L : List Res}
variable {d : Tmp} {ty : TypeId} {pos : String} {af : Array Edge} {g : Option (Nat × Bool)}
/-- a struct is as it is -/
theorem q_eqSelf {T T' : TypeId} {x y : Operand} {m : Nat} {cs : List Value} (hm : m + 1 ≤ 10000) (hk : P.keyTypeAt m T = true) (hwide : (match P.underlying T with | some (.array _ _) | some (.struct _) => true | _ => false) = true) (calm : P.eqGuardType P.depth T = false)
    (h : ∃ x, keyOf P T (.agg cs.toArray) = some x) (hx : evalE env x = some (.agg cs.toArray)) (hy : evalE env y = some (.agg cs.toArray)) :
    QT P n S w0 { dst := some d, op := .binOp .eql T x y T', type := ty, pos, after := af, guard := g } env L (.val (.bool true)) :=
  ⟨fun a w hmo H => opw_val (v := .bool true) (w' := w) (by simp [execOp, hmo.eval hx, hmo.eval hy, run_eqGuard_agg _ _ _ _ _ _ _ calm, run_eqSelf hm hk hwide h w, Result.andThen]) ⟨_, rfl, fun h => by simp at h, rfl, St.refl w⟩⟩
end
end Go.PBYtabmfndiepmcgaa
end
section
namespace Go.Proofs.Ytabmfndiepmcgaa
open Go.RowKit Go.PBYtabmfndiepmcgaa Go.ChangeShapes Go.WideShapes Go.ChangeAt
set_option linter.unusedVariables false
set_option linter.unusedSimpArgs false
set_option maxRecDepth 100000
def PairV (v : Value) (l : List UInt8) : Prop := v = .agg (bys l).toArray ∧ l.length = 64
theorem open_pair {cs : List Value} (h : Fits cs (List.replicate 64 .u8)) : ∃ l, PairV (.agg cs.toArray) l := by
  obtain ⟨l, hl, rfl⟩ := h.bytes
  exact ⟨l, rfl, hl⟩
structure D3 where
  i : List UInt8
  s : List UInt8
  c : List UInt8
  h : Bool
def C3V (n : Nat) (v : Value) (x : D3) : Prop := v = .agg (c3 x.i x.s x.c x.h).toArray ∧ x.i.length = n ∧ x.s.length = n ∧ x.c.length = n
theorem parts4 (n : Nat) (cs : List Value) (h : cs.length = n + n + n + 1) : cs = (cs.drop 0).take n ++ ((cs.drop n).take n ++ ((cs.drop (n + n)).take n ++ (cs.drop (n + n + n)).take 1)) := by
  have e4 : (cs.drop (n + n + n)).take 1 = cs.drop (n + n + n) := List.take_of_length_le (by simp; omega)
  have k : ∀ i j, (cs.drop i).take j ++ cs.drop (i + j) = cs.drop i := by
    intro i j
    rw [← List.drop_drop]
    exact List.take_append_drop j (cs.drop i)
  have k0 := k 0 n
  rw [Nat.zero_add] at k0
  rw [e4, k (n + n) n, k n n, k0, List.drop_zero]
theorem open_bundle {H : Type} {enc : TypeId × Value → H} {w : World} {r : Reach} {b0 : Nat} {v : Value} {d : DataW H} {p : List MemPlace} (hv : Value.okWide Try.prog w r b0 27 v) (h : DataW.Trod enc Try.prog w 0 (fun _ => true) true 27 v d p) : ∃ x, C3V 32 v x := by
  obtain ⟨cs, rfl⟩ := okWide_agg Try.underlying27 hv
  obtain ⟨fuel, h⟩ := h
  obtain ⟨hl, m, hf⟩ := trod_field Try.underlying27 h
  have hl : cs.toList.length = 32 + 32 + 32 + 1 := by rw [show cs.toList = (Value.agg cs).cells.toList from rfl, hl]; kernel_rfl
  obtain ⟨y0, h0⟩ : ∃ y, DataW.trod enc Try.prog w 0 (fun _ => true) true m 23 ((cs.toList.drop 0).take 32) = some y := hf _ List.mem_cons_self
  obtain ⟨y1, h1⟩ : ∃ y, DataW.trod enc Try.prog w 0 (fun _ => true) true m 23 ((cs.toList.drop 32).take 32) = some y := hf _ (List.mem_cons_of_mem _ List.mem_cons_self)
  obtain ⟨y2, h2⟩ : ∃ y, DataW.trod enc Try.prog w 0 (fun _ => true) true m 23 ((cs.toList.drop (32 + 32)).take 32) = some y := hf _ (List.mem_cons_of_mem _ (List.mem_cons_of_mem _ List.mem_cons_self))
  obtain ⟨y3, h3⟩ : ∃ y, DataW.trod enc Try.prog w 0 (fun _ => true) true m 4 ((cs.toList.drop (32 + 32 + 32)).take 1) = some y := hf _ (List.mem_cons_of_mem _ (List.mem_cons_of_mem _ (List.mem_cons_of_mem _ List.mem_cons_self)))
  have hp := parts4 32 cs.toList hl
  obtain ⟨a, ha, e0⟩ := (trod_fits (P := Try.prog) 6 23 (List.replicate 32 .u8) (by kernel_rfl) _ _ _ h0).bytes
  obtain ⟨b, hb, e1⟩ := (trod_fits (P := Try.prog) 6 23 (List.replicate 32 .u8) (by kernel_rfl) _ _ _ h1).bytes
  obtain ⟨c, hc, e2⟩ := (trod_fits (P := Try.prog) 6 23 (List.replicate 32 .u8) (by kernel_rfl) _ _ _ h2).bytes
  obtain ⟨g, e3, _⟩ := DataW.trod_bool Try.underlying4 h3
  rw [e0, e1, e2, e3] at hp
  refine ⟨⟨a, b, c, g⟩, ?_, ha, hb, hc⟩
  show Value.agg cs = _
  congr 1
  apply Array.ext'
  rw [hp]
  simp [c3]
theorem open_own {H : Type} {enc : TypeId × Value → H} {w : World} {r : Reach} {b0 : Nat} {v : Value} {d : DataW H} {p : List MemPlace} (hv : Value.okWide Try.prog w r b0 34 v) (h : DataW.Trod enc Try.prog w 0 (fun _ => true) true 34 v d p) : ∃ x, C3V 64 v x := by
  obtain ⟨cs, rfl⟩ := okWide_agg Try.underlying34 hv
  obtain ⟨fuel, h⟩ := h
  obtain ⟨hl, m, hf⟩ := trod_field Try.underlying34 h
  have hl : cs.toList.length = 64 + 64 + 64 + 1 := by rw [show cs.toList = (Value.agg cs).cells.toList from rfl, hl]; kernel_rfl
  obtain ⟨y0, h0⟩ : ∃ y, DataW.trod enc Try.prog w 0 (fun _ => true) true m 25 ((cs.toList.drop 0).take 64) = some y := hf _ List.mem_cons_self
  obtain ⟨y1, h1⟩ : ∃ y, DataW.trod enc Try.prog w 0 (fun _ => true) true m 25 ((cs.toList.drop 64).take 64) = some y := hf _ (List.mem_cons_of_mem _ List.mem_cons_self)
  obtain ⟨y2, h2⟩ : ∃ y, DataW.trod enc Try.prog w 0 (fun _ => true) true m 25 ((cs.toList.drop (64 + 64)).take 64) = some y := hf _ (List.mem_cons_of_mem _ (List.mem_cons_of_mem _ List.mem_cons_self))
  obtain ⟨y3, h3⟩ : ∃ y, DataW.trod enc Try.prog w 0 (fun _ => true) true m 4 ((cs.toList.drop (64 + 64 + 64)).take 1) = some y := hf _ (List.mem_cons_of_mem _ (List.mem_cons_of_mem _ (List.mem_cons_of_mem _ List.mem_cons_self)))
  have hp := parts4 64 cs.toList hl
  obtain ⟨a, ha, e0⟩ := (trod_fits (P := Try.prog) 6 25 (List.replicate 64 .u8) (by kernel_rfl) _ _ _ h0).bytes
  obtain ⟨b, hb, e1⟩ := (trod_fits (P := Try.prog) 6 25 (List.replicate 64 .u8) (by kernel_rfl) _ _ _ h1).bytes
  obtain ⟨c, hc, e2⟩ := (trod_fits (P := Try.prog) 6 25 (List.replicate 64 .u8) (by kernel_rfl) _ _ _ h2).bytes
  obtain ⟨g, e3, _⟩ := DataW.trod_bool Try.underlying4 h3
  rw [e0, e1, e2, e3] at hp
  refine ⟨⟨a, b, c, g⟩, ?_, ha, hb, hc⟩
  show Value.agg cs = _
  congr 1
  apply Array.ext'
  rw [hp]
  simp [c3]
theorem bundle_key {a b c : List UInt8} {h : Bool} (ha : a.length = 32) (hb : b.length = 32) (hc : c.length = 32) : ∃ x, keyOf Try.prog 27 (.agg (c3 a b c h).toArray) = some x := by
  obtain ⟨h0, p0, p1, p2, p3⟩ := c3_f (h := h) ha hb hc
  have hq : (Try.prog.types.size = (Try.prog.types.size - 1) + 1) := by kernel_rfl
  have fk : flatAt Try.prog Try.prog.types.size 23 = some (List.replicate 32 .u8) := by kernel_rfl
  have p3' : ((c3 a b c h).drop 96).take 1 = [.bool h] := by
    have := List.getElem?_eq_some_iff.1 p3
    rw [List.drop_eq_getElem_cons this.1]
    simp [this.2]
  obtain ⟨l, hl⟩ := keyLits_struct (P := Try.prog) (d := Try.prog.types.size) Try.underlying27 (cs := c3 a b c h) (by rw [h0]; kernel_rfl) (by kernel_rfl) (by
    intro x hx
    simp only [List.mem_cons, List.not_mem_nil, or_false] at hx
    rcases hx with rfl | rfl | rfl | rfl
    · show ∃ y, Try.prog.keyLits Try.prog.types.size 23 (((c3 a b c h).drop 0).take 32) = some y
      rw [p0]
      exact keyLits_flat _ _ _ _ fk (fits_bys' ha)
    · show ∃ y, Try.prog.keyLits Try.prog.types.size 23 (((c3 a b c h).drop 32).take 32) = some y
      rw [p1]
      exact keyLits_flat _ _ _ _ fk (fits_bys' hb)
    · show ∃ y, Try.prog.keyLits Try.prog.types.size 23 (((c3 a b c h).drop (2 * 32)).take 32) = some y
      rw [p2]
      exact keyLits_flat _ _ _ _ fk (fits_bys' hc)
    · show ∃ y, Try.prog.keyLits Try.prog.types.size 4 (((c3 a b c h).drop 96).take 1) = some y
      rw [p3', hq]
      exact ⟨_, keyLits_b1 Try.underlying4⟩)
  exact key_of_lits (ls := []) (by kernel_rfl) (by kernel_rfl) (by rw [h0]; kernel_rfl) hl
theorem q_bundle {n : Nat} {S : List Nat} {w0 : World} {env : Env} {L : List Res} {d : Tmp} {ty : TypeId} {pos : String} {af : Array Edge} {g : Option (Nat × Bool)} {T' : TypeId} {x y : Operand} {a b c : List UInt8} {h : Bool} (ha : a.length = 32) (hb : b.length = 32) (hc : c.length = 32) (hx : evalE env x = some (.agg (c3 a b c h).toArray)) (hy : evalE env y = some (.agg (c3 a b c h).toArray)) :
    QT Try.prog n S w0 { dst := some d, op := .binOp .eql 27 x y T', type := ty, pos, after := af, guard := g } env L (.val (.bool true)) :=
  q_eqSelf (m := 6) (by omega) (of_decide_eq_true (by kernel_rfl)) (by kernel_rfl) (by kernel_rfl) (bundle_key ha hb hc) hx hy
end Go.Proofs.Ytabmfndiepmcgaa
end
section
namespace Go.Proofs.Ytabmfndiepmcgaa
open Go.RowKit Go.PBYtabmfndiepmcgaa
set_option linter.unusedVariables false
set_option linter.unusedSimpArgs false
set_option maxRecDepth 10000
theorem turn4 (a f i s o : List UInt8) : [(pairB s, pubK (pairB a)), (pairB i, pubK (pairB f)), (pairB s, pubK (pairB f)), (pairB o, pubK (pairB f))].map comI = [(pairB a, pubK (pairB s)), (pairB f, pubK (pairB i)), (pairB f, pubK (pairB s)), (pairB f, pubK (pairB o))].map comI := by
  simp only [List.map_cons, List.map_nil]
  rw [comI_turn s a, comI_turn i f, comI_turn s f, comI_turn o f]
theorem agK4 (a f i s o : List UInt8) : agK [(pairB s, pubK (pairB a)), (pairB i, pubK (pairB f)), (pairB s, pubK (pairB f)), (pairB o, pubK (pairB f))] = agK [(pairB a, pubK (pairB s)), (pairB f, pubK (pairB i)), (pairB f, pubK (pairB s)), (pairB f, pubK (pairB o))] := agK_eq (turn4 a f i s o)
theorem bad4A (a f i s o : List UInt8) : badL [(pairB s, pubK (pairB a)), (pairB i, pubK (pairB f)), (pairB s, pubK (pairB f)), (pairB o, pubK (pairB f))] = 0 := badL_ok (by
  intro x hx
  simp only [List.mem_cons, List.not_mem_nil, or_false] at hx
  rcases hx with rfl | rfl | rfl | rfl <;> exact comI_ok _ _)
theorem bad4B (a f i s o : List UInt8) : badL [(pairB a, pubK (pairB s)), (pairB f, pubK (pairB i)), (pairB f, pubK (pairB s)), (pairB f, pubK (pairB o))] = 0 := badL_ok (by
  intro x hx
  simp only [List.mem_cons, List.not_mem_nil, or_false] at hx
  rcases hx with rfl | rfl | rfl | rfl <;> exact comI_ok _ _)
theorem turn3 (a f i s o : List UInt8) : [(pairB s, pubK (pairB a)), (pairB i, pubK (pairB f)), (pairB s, pubK (pairB f))].map comI = [(pairB a, pubK (pairB s)), (pairB f, pubK (pairB i)), (pairB f, pubK (pairB s))].map comI := by
  simp only [List.map_cons, List.map_nil]
  rw [comI_turn s a, comI_turn i f, comI_turn s f]
theorem agK3 (a f i s o : List UInt8) : agK [(pairB s, pubK (pairB a)), (pairB i, pubK (pairB f)), (pairB s, pubK (pairB f))] = agK [(pairB a, pubK (pairB s)), (pairB f, pubK (pairB i)), (pairB f, pubK (pairB s))] := agK_eq (turn3 a f i s o)
theorem bad3A (a f i s o : List UInt8) : badL [(pairB s, pubK (pairB a)), (pairB i, pubK (pairB f)), (pairB s, pubK (pairB f))] = 0 := badL_ok (by
  intro x hx
  simp only [List.mem_cons, List.not_mem_nil, or_false] at hx
  rcases hx with rfl | rfl | rfl <;> exact comI_ok _ _)
theorem bad3B (a f i s o : List UInt8) : badL [(pairB a, pubK (pairB s)), (pairB f, pubK (pairB i)), (pairB f, pubK (pairB s))] = 0 := badL_ok (by
  intro x hx
  simp only [List.mem_cons, List.not_mem_nil, or_false] at hx
  rcases hx with rfl | rfl | rfl <;> exact comI_ok _ _)
theorem awake_ne : ¬ agK [(pairB [97], pubK (pairB [1, 2])), (pairB [102], pubK (pairB [1, 1])), (pairB [102], pubK (pairB [1, 2])), (pairB [102], pubK (pairB [1, 3]))] = List.replicate 32 0 := by
  have h0 := bad4B [97] [102] [1, 1] [1, 2] [1, 3]
  unfold agK
  rw [if_pos h0]
  simp only [List.map_cons, List.map_nil]
  rw [comI_pair, comI_pair, comI_pair, comI_pair, com_aS, com_fI, com_fS, com_fO]
  exact key_ne
/-- what one comes to who begins, and who answers -/
theorem bnd_true (i s c : List UInt8) : bnd i s c true = c3 (pubK i) (pubK s) (pubK c) true := rfl
theorem bnd_false (i s c : List UInt8) : bnd i s c false = c3 (pubK i) (pubK s) k32 false := rfl
set_option maxHeartbeats 4000000 in
theorem awake9_calls (w : World) : Calls Try.prog 7 #[] w fun e w' => e = .returned (.bool true) ∧ Kept [] w w' := by
  have hne := awake_ne
  have k4 := agK4 [97] [102] [1, 1] [1, 2] [1, 3]
  have b4a := bad4A [97] [102] [1, 1] [1, 2] [1, 3]
  have b4b := bad4B [97] [102] [1, 1] [1, 2] [1, 3]
  have lA := pairB_length [97]
  have lF := pairB_length [102]
  have lI := pairB_length [1, 1]
  have lS := pairB_length [1, 2]
  have lO := pairB_length [1, 3]
  have ho := fun w => own_calls 1 true w
  have hpa := fun B m cb hm w hB hcb => rpair_calls [97] B m cb hm (by simp) w hB hcb
  have hpf := fun B m cb hm w hB hcb => rpair_calls [102] B m cb hm (by simp) w hB hcb
  unfold ownI ownS ownO at ho
  obtain ⟨A, eA⟩ : ∃ l, pairB [97] = l := ⟨_, rfl⟩
  obtain ⟨F, eF⟩ : ∃ l, pairB [102] = l := ⟨_, rfl⟩
  obtain ⟨I, eI⟩ : ∃ l, pairB [1, 1] = l := ⟨_, rfl⟩
  obtain ⟨S, eS⟩ : ∃ l, pairB [1, 2] = l := ⟨_, rfl⟩
  obtain ⟨O, eO⟩ : ∃ l, pairB [1, 3] = l := ⟨_, rfl⟩
  rw [eA] at lA hpa hne k4 b4a b4b
  rw [eF] at lF hpf hne k4 b4a b4b
  rw [eI] at lI ho hne k4 b4a b4b
  rw [eS] at lS ho hne k4 b4a b4b
  rw [eO] at lO ho hne k4 b4a b4b
  have hB := fun w => abegin_true_calls A F (pubK I) (pubK S) (pubK O) lA lF (pubK_length lI) (pubK_length lS) (pubK_length lO) w
  have hN := fun w => aanswer_true_calls (pubK A) (pubK F) I S O (pubK_length lA) (pubK_length lF) lI lS lO w
  rw [b4b] at hB
  rw [b4a, k4] at hN
  have hU := fun w => bundle_true_calls I S O lI lS lO w
  rw [bnd_true] at hU
  have lk := agK_length [(A, pubK S), (F, pubK I), (F, pubK S), (F, pubK O)]
  obtain ⟨k, ek⟩ : ∃ k, agK [(A, pubK S), (F, pubK I), (F, pubK S), (F, pubK O)] = k := ⟨_, rfl⟩
  rw [ek] at hB hN hne lk
  clear k4 b4a b4b eA eF eI eS eO ek
  have lA' := pubK_length lA
  have lF' := pubK_length lF
  have lI' := pubK_length lI
  have lS' := pubK_length lS
  have lO' := pubK_length lO
  have bA : (bys A).length = 64 := by rw [bys_length]; exact lA
  have bF : (bys F).length = 64 := by rw [bys_length]; exact lF
  have bk : (bys k).length = 32 := by rw [bys_length]; exact lk
  have pA : ((bys A).drop 32).take 32 = bys (pubK A) := by unfold pubK; simp [bys]
  have pF : ((bys F).drop 32).take 32 = bys (pubK F) := by unfold pubK; simp [bys]
  have bpA : (bys (pubK A)).length = 32 := by rw [bys_length]; exact lA'
  have bpF : (bys (pubK F)).length = 32 := by rw [bys_length]; exact lF'
  have f0 := (c3_f (h := true) lI lS lO).len
  have g0 := c3_one I S O true
  obtain ⟨u0, u1, u2, u3, u4⟩ := c3_f (h := true) lI' lS' lO'
  have v0 := c3_one (pubK I) (pubK S) (pubK O) true
  obtain ⟨ow, how⟩ : ∃ l, c3 I S O true = l := ⟨_, rfl⟩
  obtain ⟨bu, hbu⟩ : ∃ l, c3 (pubK I) (pubK S) (pubK O) true = l := ⟨_, rfl⟩
  rw [how] at ho hN hU f0 g0
  rw [hbu] at hB hU u0 u1 u2 u3 u4 v0
  have lz : (bys (List.replicate 32 0)).length = 32 := by rw [bys_length, List.length_replicate]
  have lz2 : (bys (List.replicate 32 0) ++ bys (List.replicate 32 0)).length = 64 := by rw [List.length_append, lz]
  have ezo : (bys (List.replicate 32 0) ++ bys (List.replicate 32 0) ++ bys (List.replicate 32 0) ++ bys (List.replicate 32 0) ++ bys (List.replicate 32 0) ++ bys (List.replicate 32 0) ++ [Value.bool false]).length = 193 := by kernel_rfl
  have ezb : (bys (List.replicate 32 0) ++ bys (List.replicate 32 0) ++ bys (List.replicate 32 0) ++ [Value.bool false]).length = 97 := by kernel_rfl
  refine enter (n := 55) (R := fun e L => e = .returned (.bool true)) [] Try.func7 rfl rfl rfl (St.refl w) ?_ (fun e w' L' h H => ⟨h, H.kept⟩)
  refine VC_seq ?_
  refine VC_region ?_
  refine vl_v (q_assign rfl) rfl ?_
  refine vl_nil ?_
  refine (th_n ?_)
  refine VC_seq ?_
  refine VC_region ?_
  refine vl_v (q_callV Try.func13 rfl rfl rfl (fun w1 H1 => ho w1)) rfl ?_
  refine l_allocA zr34 rfl ?_
  intro b1
  refine l_storeA 0 rfl rfl rfl sz34 f0 g0 ezo ?_
  simp only [List.set_cons_zero, List.set_cons_succ]
  refine vl_nil ?_
  refine (th_n ?_)
  refine VC_seq ?_
  refine VC_region ?_
  refine l_litA (cs := bys [UInt8.ofNat 97]) Try.underlying45 in5 (by decide) rfl rfl rfl rfl (by exact one_all rfl) rfl rfl ?_
  intro b10
  refine l_convS 0 Try.underlying45 Try.underlying5 rfl rfl rfl ?_
  refine vl_v (q_callV Try.func14 rfl rfl rfl (fun w1 H1 => hpa _ _ _ rfl w1 (Reads.row 0 rfl w1 H1) (by simp))) rfl ?_
  refine l_allocA zr25 rfl ?_
  intro b2
  refine l_storeA 0 rfl rfl rfl sz25 (by with_reducible assumption) (by with_reducible first | exact bys_one _ | exact u32s_one _ | exact u64s_one _ | exact i64s_one _ | exact n64s_one _ | assumption) (by with_reducible assumption) ?_
  simp only [List.set_cons_zero, List.set_cons_succ]
  refine vl_nil ?_
  refine (th_n ?_)
  refine VC_seq ?_
  refine VC_region ?_
  refine l_litA (cs := bys [UInt8.ofNat 102]) Try.underlying45 in5 (by decide) rfl rfl rfl rfl (by exact one_all rfl) rfl rfl ?_
  intro b13
  refine l_convS 0 Try.underlying45 Try.underlying5 rfl rfl rfl ?_
  refine vl_v (q_callV Try.func14 rfl rfl rfl (fun w1 H1 => hpf _ _ _ rfl w1 (Reads.row 0 rfl w1 H1) (by simp))) rfl ?_
  refine l_allocA zr25 rfl ?_
  intro b3
  refine l_storeA 0 rfl rfl rfl sz25 (by with_reducible assumption) (by with_reducible first | exact bys_one _ | exact u32s_one _ | exact u64s_one _ | exact i64s_one _ | exact n64s_one _ | assumption) (by with_reducible assumption) ?_
  simp only [List.set_cons_zero, List.set_cons_succ]
  refine vl_nil ?_
  refine (th_n ?_)
  refine VC_seq ?_
  refine VC_drawQ 10 5 [[], [], [], [2], [0, 1, 3], [4], [5], [5], [], [8, 6, 4, 0, 1, 2, 3, 5], [7, 9, 0, 1, 2, 3, 4, 5, 6, 8]] [[], [], [], [2], [0, 1, 2, 3], [0, 1, 2, 3, 4], [0, 1, 2, 3, 4, 5], [0, 1, 2, 3, 4, 5], [], [0, 1, 2, 3, 4, 5, 6, 8], [0, 1, 2, 3, 4, 5, 6, 7, 8, 9]] [([], [], [], [0, 1, 2, 3, 4], []), ([], [], [], [0, 1, 2, 3, 4], []), ([], [], [], [0, 1, 2, 3, 4], []), ([2], [], [], [0, 1, 2, 3, 4], [2]), ([0, 1, 2, 3], [], [], [0, 1, 2, 3, 4], [0, 1, 2, 3]), ([0, 1, 2, 3, 4], [], [], [0, 1, 2, 3, 4], [0, 1, 2, 3, 4]), ([0, 1, 2, 3, 4, 5], [], [], [0, 1, 2, 3, 4], [0, 1, 2, 3, 4, 5]), ([0, 1, 2, 3, 4, 5], [], [], [0, 1, 2, 3, 4], [0, 1, 2, 3, 4, 5]), ([], [], [], [0, 1, 2, 3, 4], []), ([0, 1, 2, 3, 4, 5, 6, 8], [], [8], [0, 1, 2, 3, 4], [0, 1, 2, 3, 4, 5, 6])] [0, 1, 2, 3, 4] [0, 1, 2, 3, 4, 5, 6, 7, 9] rfl rfl (by kernel_rfl) ?_
  refine qp_v (fun xs gs hx => q_loads 2 Try.underlying25 rfl rfl rfl sz25 (by with_reducible assumption)) ?_
  refine qp_v (fun xs gs hx => q_loads 0 Try.underlying25 rfl rfl rfl sz25 (by with_reducible assumption)) ?_
  refine qp_v (fun xs gs hx => q_loads 4 Try.underlying34 rfl rfl rfl sz34 (by with_reducible assumption)) ?_
  refine qp_v (fun xs gs hx => q_callV Try.func12 rfl rfl rfl (fun w1 H1 => hU w1)) ?_
  refine qp_v (fun xs gs hx => q_callV Try.func8 rfl rfl rfl (fun w1 H1 => hB w1)) ?_
  refine qp_v (fun xs gs hx => q_move rfl) ?_
  refine qp_v (fun xs gs hx => q_ext rfl rfl) ?_
  refine qp_v (fun xs gs hx => q_ext rfl rfl) ?_
  refine qp_a (fun xs gs hx => q_alloc zr23 rfl) ?_
  refine qp_storeN (fun xs gs hx => rfl) (fun xs gs hx => hx.1 rfl) (fun xs gs hx => rfl) (fun xs gs hx => List.append_nil _) sz23 (fun xs gs hx => by first | with_reducible assumption | omega | exact lz | exact lz2 | rw [f0]) (fun xs gs hx => by first | (with_reducible first | exact bys_one _ | exact u32s_one _ | exact u64s_one _ | exact i64s_one _ | exact n64s_one _ | assumption) | exact bys_one _ | exact u32s_one _ | exact u64s_one _ | exact i64s_one _ | exact one_all rfl | (refine app_one ?_ ?_ <;> first | exact bys_one _ | exact one_all rfl | (simp; done))) (fun xs gs hx => by first | with_reducible assumption | omega | exact lz | exact lz2 | rw [f0]) ?_
  refine qp_end ?_
  intro xs gs hx
  obtain ⟨⟨b4, e4⟩, _, _⟩ := hx
  simp only [selI, ownsA, List.contains_cons, List.contains_nil, Nat.reduceBEq, Nat.reduceAdd, Bool.or_false, Bool.or_true, Bool.false_or, Bool.true_or, mask, nRow, nBlk, nRowT, tupAt_0, tupAt_1, List.append_assoc, List.nil_append, List.append_nil, List.cons_append, List.singleton_append, e4]
  refine VL.keep (Sub.cons (s := 0) rfl (Sub.cons (s := 1) rfl (Sub.cons (s := 2) rfl (Sub.cons (s := 3) rfl (Sub.cons (s := 23) rfl (Sub.cons (s := 4) rfl (Sub.nil _))))))) ?_
  refine vl_v (q_assign rfl) rfl ?_
  refine vl_nil ?_
  refine (qn_n (th_n ?_))
  refine VC_seq ?_
  refine VC_region ?_
  refine vl_v (q_loads 4 Try.underlying34 rfl rfl rfl sz34 (by with_reducible assumption)) rfl ?_
  refine vl_v (q_fldA fo25_1 (by decide) rfl rfl) rfl ?_
  refine vl_v (q_loadsAt 2 Try.underlying23 rfl rfl rfl sz23 pA bpA) rfl ?_
  refine vl_v (q_fldA fo25_1 (by decide) rfl rfl) rfl ?_
  refine vl_v (q_loadsAt 0 Try.underlying23 rfl rfl rfl sz23 pF bpF) rfl ?_
  refine vl_v (q_callV Try.func10 rfl rfl rfl (fun w1 H1 => hN w1)) rfl ?_
  refine vl_v (q_move rfl) rfl ?_
  refine vl_v (q_ext rfl rfl) rfl ?_
  refine vl_v (q_ext rfl rfl) rfl ?_
  refine l_allocA zr23 rfl ?_
  intro b6
  refine l_storeA 0 rfl rfl rfl sz23 (by with_reducible assumption) (by with_reducible first | exact bys_one _ | exact u32s_one _ | exact u64s_one _ | exact i64s_one _ | exact n64s_one _ | assumption) (by with_reducible assumption) ?_
  simp only [List.set_cons_zero, List.set_cons_succ]
  refine vl_v (q_assign rfl) rfl ?_
  refine vl_nil ?_
  refine (th_n ?_)
  refine VC_seq ?_
  refine VC_region ?_
  refine vl_v (q_loads 5 Try.underlying34 rfl rfl rfl sz34 (by with_reducible assumption)) rfl ?_
  refine vl_v (q_callV Try.func12 rfl rfl rfl (fun w1 H1 => hU w1)) rfl ?_
  refine l_allocA zr27 rfl ?_
  intro b8
  refine l_storeA 0 rfl rfl rfl sz27 u0 v0 ezb ?_
  simp only [List.set_cons_zero, List.set_cons_succ]
  refine vl_nil ?_
  refine (th_n ?_)
  refine VC_seq ?_
  refine VC_region ?_
  refine vl_v (q_fldA fo27_3 (by decide) rfl rfl) rfl ?_
  refine vl_v (q_load 0 Try.underlying4 rfl rfl rfl u4) rfl ?_
  refine vl_v (q_move rfl) rfl ?_
  refine vl_vg rfl (q_move rfl) rfl ?_
  refine vl_vg rfl (q_true (q_eql_n (q := 0) Try.underlying29 rfl rfl) (decide_eq_true rfl)) rfl ?_
  refine vl_v (q_pickT rfl rfl) rfl ?_
  refine vl_v (q_move rfl) rfl ?_
  refine vl_vg rfl (q_move rfl) rfl ?_
  refine vl_vg rfl (q_true (q_eql_n (q := 0) Try.underlying29 rfl rfl) (decide_eq_true rfl)) rfl ?_
  refine vl_v (q_pickT rfl rfl) rfl ?_
  refine vl_v (q_move rfl) rfl ?_
  refine vl_vg rfl (q_loads 7 Try.underlying23 rfl rfl rfl sz23 (by with_reducible assumption)) rfl ?_
  refine vl_vg rfl (q_loads 1 Try.underlying23 rfl rfl rfl sz23 (by with_reducible assumption)) rfl ?_
  refine vl_vg rfl (q_eqT flat32 rfl rfl (fits_bys' lk) rfl) rfl ?_
  refine vl_v (q_pickT rfl rfl) rfl ?_
  refine vl_v (q_move rfl) rfl ?_
  refine vl_vg rfl (q_loads 7 Try.underlying23 rfl rfl rfl sz23 (by with_reducible assumption)) rfl ?_
  refine vl_vg rfl (q_build (c' := bys (List.replicate 32 0)) rfl (by kernel_rfl)) rfl ?_
  refine vl_vg rfl (q_as (v := .bool true) (q_neB flat32 rfl rfl (fits_bys' lk) (fits_bys' (by simp))) (by rw [decide_eq_false hne]; rfl)) rfl ?_
  refine vl_v (q_pickT rfl rfl) rfl ?_
  refine vl_v (q_assign rfl) rfl ?_
  refine vl_nil ?_
  refine (th_n ?_)
  refine VC_ret ?_
  refine ⟨_, res1 rfl rfl, ?_⟩
  exact rfl
end Go.Proofs.Ytabmfndiepmcgaa
end
