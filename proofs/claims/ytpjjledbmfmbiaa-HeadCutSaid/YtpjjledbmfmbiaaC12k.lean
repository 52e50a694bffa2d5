/- What the document's functions of chapter 12 do: the envelope of any bytes; are two envelopes the same. Conditions: lengths that memory bears. -/
import Derived.Test.YtpjjledbmfmbiaaC12j
namespace Go.PBYtpjjledbmfmbiaa
open Go Go.RowKit
set_option linter.unusedVariables false
theorem ofHigh1 {l : List UInt8} (h : 0 < l.length) : ofHigh (l.take 1) = (l.getD 0 0).toNat := by
  cases l with
  | nil => simp at h
  | cons a r => simp [ofHigh]
theorem reF_eq {l : List UInt8} (h : 0 < l.length) : reF l = (l.getD 0 0).toNat := ofHigh1 h
theorem reT_eq {l : List UInt8} (h : 1 < l.length) : reT l = (l.getD 1 0).toNat := by
  cases l with
  | nil => simp at h
  | cons a r =>
    have := ofHigh1 (l := r) (by simpa using h)
    simpa [reT] using this
/-- are two envelopes the same? -/
def sameEB (X Y : EnvD) : Bool := decide (X.f = Y.f) && decide (X.t = Y.t) && decide (X.cm = Y.cm) && decide (X.pub = Y.pub ∧ X.p = Y.p ∧ X.q = Y.q) && decide (X.body = Y.body)
theorem sameEB_refl (X : EnvD) : sameEB X X = true := by simp [sameEB]
theorem headC_inj {a b : List UInt8} {p q p' q' : Int} (ha : a.length = 32) (hb : b.length = 32) : headC a p q = headC b p' q' ↔ a = b ∧ p = p' ∧ q = q' := by
  constructor
  · intro h
    have h1 := List.append_inj h (by simp [bys, ha, hb])
    have h2 := bys_inj' h1.1
    have h3 := h1.2
    simp only [List.cons.injEq, Value.int.injEq, true_and, and_true] at h3
    exact ⟨h2, h3.1, h3.2⟩
  · rintro ⟨rfl, rfl, rfl⟩; rfl
end Go.PBYtpjjledbmfmbiaa
namespace Go.Proofs.Ytpjjledbmfmbiaa
open Go.RowKit Go.PBYtpjjledbmfmbiaa
set_option linter.unusedVariables false
set_option linter.unusedSimpArgs false
set_option maxRecDepth 10000

set_option maxHeartbeats 1000000 in
theorem rre_short (l : List UInt8) (A : Option Addr) (m c : Nat) (hm : m = l.length) (hc : m ≤ c) (hn : m < 76) (w : World) (hA : SlAt w A (bys l)) :
    Calls Try.prog 16 #[.slice A m c] w fun e w' => e = .returned (.tuple #[.agg zEnvC.toArray, vN 3]) ∧ Kept [] w w' := by
  have hz := zEnvC_length
  have hzo := zEnvC_one
  refine enter (n := 53) (R := fun e M => e = .returned (.tuple #[.agg zEnvC.toArray, vN 3])) [.slice A m c] Try.func16 rfl rfl rfl (St.refl w) ?_ (fun e w' L' h H => ⟨h, H.kept⟩)
  refine VC_seq ?_
  refine VC_region ?_
  refine l_allocA zr35 rfl ?_
  intro b2
  refine vl_v (q_assign rfl) rfl ?_
  refine vl_nil ?_
  refine (th_n ?_)
  refine VC_seq ?_
  refine VC_seq ?_
  refine VC_region ?_
  refine vl_v (q_move rfl) rfl ?_
  refine vl_v (q_lenS Try.underlying26 rfl) rfl ?_
  refine vl_v (q_true (q_lss_n (q := 76) Try.underlying3 rfl rfl) (decide_eq_true (by omega))) rfl ?_
  refine vl_v (q_move rfl) rfl ?_
  refine vl_skip rfl rfl ?_
  refine vl_skip rfl rfl ?_
  refine vl_skip rfl rfl ?_
  refine vl_skip rfl rfl ?_
  refine vl_skip rfl rfl ?_
  refine vl_skip rfl rfl ?_
  refine vl_skip rfl rfl ?_
  refine vl_skip rfl rfl ?_
  first | (refine vl_v (q_pickT rfl rfl) rfl ?_) | (refine vl_v (q_pickF rfl rfl) rfl ?_)
  refine vl_nil ?_
  refine (th_n ?_)
  refine VC_yes (rfl) ?_
  refine VC_seq ?_
  refine VC_region ?_
  refine vl_v (q_build (c' := zEnvC) rfl (by kernel_rfl)) rfl ?_
  refine l_storeA 0 rfl rfl rfl sz35 (by first | assumption | omega | (rw [zEnvC_eq]; assumption)) (by first | (with_reducible first | exact bys_one _ | exact u32s_one _ | exact u64s_one _ | exact i64s_one _ | exact n64s_one _ | assumption) | exact bys_one _ | exact u32s_one _ | exact u64s_one _ | exact i64s_one _ | exact one_all rfl | (refine app_one ?_ ?_ <;> first | exact bys_one _ | exact one_all rfl | (simp; done))) (by first | assumption | omega | (rw [zEnvC_eq]; assumption)) ?_
  simp only [List.set_cons_zero, List.set_cons_succ]
  refine vl_v (q_assign rfl) rfl ?_
  refine vl_nil ?_
  refine (th_n ?_)
  refine VC_ret ?_
  refine (th_r ?_)
  refine ⟨_, resC2 0 rfl Try.underlying35 rfl rfl rfl sz35 (by first | assumption | omega | (rw [zEnvC_eq]; assumption)) rfl, ?_⟩
  exact rfl
set_option maxHeartbeats 1000000 in
theorem rre_short2 (l : List UInt8) (A : Option Addr) (m c : Nat) (hm : m = l.length) (hc : m ≤ c) (h2 : 76 ≤ m) (hn : m < 76 + reN l) (w : World) (hA : SlAt w A (bys l)) :
    Calls Try.prog 16 #[.slice A m c] w fun e w' => e = .returned (.tuple #[.agg zEnvC.toArray, vN 3]) ∧ Kept [] w w' := by
  have hz := zEnvC_length
  have hzo := zEnvC_one
  have A1 := at_take (n := 2) (adv_at (n := 74) hA hm hc)
  have l1 : ((l.drop 74).take 2).length = 76 - 74 := by simp; omega
  have e1 : ofHigh (((l.drop 74).take 2).take 8) = reN l := by rw [List.take_of_length_le (by omega)]; rfl
  have nlt := reN_lt l
  refine enter (n := 53) (R := fun e M => e = .returned (.tuple #[.agg zEnvC.toArray, vN 3])) [.slice A m c] Try.func16 rfl rfl rfl (St.refl w) ?_ (fun e w' L' h H => ⟨h, H.kept⟩)
  refine VC_seq ?_
  refine VC_region ?_
  refine l_allocA zr35 rfl ?_
  intro b2
  refine vl_v (q_assign rfl) rfl ?_
  refine vl_nil ?_
  refine (th_n ?_)
  refine VC_seq ?_
  refine VC_seq ?_
  refine VC_region ?_
  refine vl_v (q_move rfl) rfl ?_
  refine vl_v (q_lenS Try.underlying26 rfl) rfl ?_
  refine vl_v (q_false (q_lss_n (q := 76) Try.underlying3 rfl rfl) (decide_eq_false (by omega))) rfl ?_
  refine vl_v (q_move rfl) rfl ?_
  refine vl_vg rfl (q_move rfl) rfl ?_
  refine vl_vg rfl (q_lenS Try.underlying26 rfl) rfl ?_
  refine vl_vg rfl (q_move rfl) rfl ?_
  refine vl_vg rfl (q_slcS (l := 74) (h := 76) Try.underlying26 sz5 rfl ⟨_, rfl⟩ ⟨_, rfl⟩ rfl (.inl rfl) (by omega) (by omega) (by omega)) rfl ?_
  refine vl_vg rfl (q_callV Try.func33 rfl rfl rfl (fun w1 H1 => e1 ▸ l1 ▸ rofHigh_calls ((l.drop 74).take 2) (adv A 74 c 1) (c - 74) w1 (Reads.old A1 w1 H1) (by omega) (by omega))) rfl ?_
  refine vl_vg rfl (q_conv_nn Try.underlying45 Try.underlying3 rfl (by omega)) rfl ?_
  first | (refine vl_vg rfl (q_add_n (p := 76) rfl rfl (by omega)) rfl ?_) | (refine vl_vg rfl (q_add_i rfl rfl (by omega) (by omega)) rfl ?_)
  refine vl_vg rfl (q_true (q_lss_n Try.underlying3 rfl rfl) (decide_eq_true (by omega))) rfl ?_
  first | (refine vl_v (q_pickT rfl rfl) rfl ?_) | (refine vl_v (q_pickF rfl rfl) rfl ?_)
  refine vl_nil ?_
  refine (th_n ?_)
  refine VC_yes (rfl) ?_
  refine VC_seq ?_
  refine VC_region ?_
  refine vl_v (q_build (c' := zEnvC) rfl (by kernel_rfl)) rfl ?_
  refine l_storeA 0 rfl rfl rfl sz35 (by first | assumption | omega | (rw [zEnvC_eq]; assumption)) (by first | (with_reducible first | exact bys_one _ | exact u32s_one _ | exact u64s_one _ | exact i64s_one _ | exact n64s_one _ | assumption) | exact bys_one _ | exact u32s_one _ | exact u64s_one _ | exact i64s_one _ | exact one_all rfl | (refine app_one ?_ ?_ <;> first | exact bys_one _ | exact one_all rfl | (simp; done))) (by first | assumption | omega | (rw [zEnvC_eq]; assumption)) ?_
  simp only [List.set_cons_zero, List.set_cons_succ]
  refine vl_v (q_assign rfl) rfl ?_
  refine vl_nil ?_
  refine (th_n ?_)
  refine VC_ret ?_
  refine (th_r ?_)
  refine ⟨_, resC2 0 rfl Try.underlying35 rfl rfl rfl sz35 (by first | assumption | omega | (rw [zEnvC_eq]; assumption)) rfl, ?_⟩
  exact rfl
set_option maxHeartbeats 2000000 in
theorem rre_form1 (l : List UInt8) (A : Option Addr) (m c : Nat) (hm : m = l.length) (hc : m ≤ c) (hb : m ≤ 1000000) (h2 : 76 ≤ m) (h3 : 76 + reN l ≤ m) (hne : m ≠ 76 + reN l) (w : World) (hA : SlAt w A (bys l)) :
    Calls Try.prog 16 #[.slice A m c] w fun e w' => e = .returned (.tuple #[.agg zEnvC.toArray, vN 2]) ∧ Kept [] w w' := by
  have lcm : (reC l).length = 32 := by unfold reC; simp; omega
  have lpub : (rdP (l.drop 34)).length = 32 := by unfold rdP; simp; omega
  have hz := zEnvC_length
  have hzo := zEnvC_one
  have A1 := at_take (n := 2) (adv_at (n := 74) hA hm hc)
  have A2 := adv_at (n := 2) hA hm hc
  have A3 := at_take (n := 40) (adv_at (n := 34) hA hm hc)
  have A4 := adv_at (n := 76) hA hm hc
  have l1 : ((l.drop 74).take 2).length = 76 - 74 := by simp; omega
  have l3 : ((l.drop 34).take 40).length = 74 - 34 := by simp; omega
  have e1 : ofHigh (((l.drop 74).take 2).take 8) = reN l := by rw [List.take_of_length_le (by omega)]; rfl
  have ecm : (l.drop 2).take 32 = reC l := rfl
  have ep : rdP ((l.drop 34).take 40) = rdP (l.drop 34) := by unfold rdP; rw [List.take_take]; rfl
  have ex : rdM ((l.drop 34).take 40) = rdM (l.drop 34) := by unfold rdM; rw [List.drop_take, List.take_take]; rfl
  have ey : rdN ((l.drop 34).take 40) = rdN (l.drop 34) := by unfold rdN; rw [List.drop_take, List.take_take]; rfl
  have nlt := reN_lt l
  have ef := reF_eq (l := l) (by omega)
  have et := reT_eq (l := l) (by omega)
  have elen := fun (s : Value) => envC_len (f := reF l) (t := reT l) (p := rdM (l.drop 34)) (q := rdN (l.drop 34)) (sl := s) lcm lpub
  have eg4 := fun (s : Value) => (envC_f (f := reF l) (t := reT l) (p := rdM (l.drop 34)) (q := rdN (l.drop 34)) (sl := s) lcm lpub).g4
  have eone := fun (A : Option Addr) (n c : Nat) => envC_one (f := reF l) (t := reT l) (cm := reC l) (pub := rdP (l.drop 34)) (p := rdM (l.drop 34)) (q := rdN (l.drop 34)) (sl := .slice A n c) rfl
  have hri := fun (n cB : Nat) (B : Option Addr) => rrightE_calls (reF l) (reT l) (reC l) (rdP (l.drop 34)) (rdM (l.drop 34)) (rdN (l.drop 34)) n cB B lcm lpub
  refine enter (n := 53) (R := fun e M => e = .returned (.tuple #[.agg zEnvC.toArray, vN 2])) [.slice A m c] Try.func16 rfl rfl rfl (St.refl w) ?_ (fun e w' L' h H => ⟨h, H.kept⟩)
  refine VC_seq ?_
  refine VC_region ?_
  refine l_allocA zr35 rfl ?_
  intro b2
  refine vl_v (q_assign rfl) rfl ?_
  refine vl_nil ?_
  refine (th_n ?_)
  refine VC_seq ?_
  refine VC_seq ?_
  refine VC_region ?_
  refine vl_v (q_move rfl) rfl ?_
  refine vl_v (q_lenS Try.underlying26 rfl) rfl ?_
  refine vl_v (q_false (q_lss_n (q := 76) Try.underlying3 rfl rfl) (decide_eq_false (by omega))) rfl ?_
  refine vl_v (q_move rfl) rfl ?_
  refine vl_vg rfl (q_move rfl) rfl ?_
  refine vl_vg rfl (q_lenS Try.underlying26 rfl) rfl ?_
  refine vl_vg rfl (q_move rfl) rfl ?_
  refine vl_vg rfl (q_slcS (l := 74) (h := 76) Try.underlying26 sz5 rfl ⟨_, rfl⟩ ⟨_, rfl⟩ rfl (.inl rfl) (by omega) (by omega) (by omega)) rfl ?_
  refine vl_vg rfl (q_callV Try.func33 rfl rfl rfl (fun w1 H1 => e1 ▸ l1 ▸ rofHigh_calls ((l.drop 74).take 2) (adv A 74 c 1) (c - 74) w1 (Reads.old A1 w1 H1) (by omega) (by omega))) rfl ?_
  refine vl_vg rfl (q_conv_nn Try.underlying45 Try.underlying3 rfl (by omega)) rfl ?_
  first | (refine vl_vg rfl (q_add_n (p := 76) rfl rfl (by omega)) rfl ?_) | (refine vl_vg rfl (q_add_i rfl rfl (by omega) (by omega)) rfl ?_)
  refine vl_vg rfl (q_false (q_lss_n Try.underlying3 rfl rfl) (decide_eq_false (by omega))) rfl ?_
  first | (refine vl_v (q_pickT rfl rfl) rfl ?_) | (refine vl_v (q_pickF rfl rfl) rfl ?_)
  refine vl_nil ?_
  refine (th_n ?_)
  refine VC_no (rfl) ?_
  refine VC_skip ?_
  refine (th_n ?_)
  refine VC_seq ?_
  refine VC_drawQ 20 1 [[], [0], [1], [2], [], [4], [5], [6], [], [8], [9], [], [11], [12, 10], [], [], [15], [14, 16, 13], [3, 7, 10, 13, 17], [], [19, 18, 17, 0, 1, 2, 3, 4, 5, 6, 7, 8, 9, 10, 11, 12, 13, 14, 15, 16]] [[], [0], [0, 1], [0, 1, 2], [], [4], [4, 5], [4, 5, 6], [], [8], [8, 9], [], [11], [8, 9, 10, 11, 12], [], [], [15], [8, 9, 10, 11, 12, 13, 14, 15, 16], [0, 1, 2, 3, 4, 5, 6, 7, 8, 9, 10, 11, 12, 13, 14, 15, 16, 17], [], [0, 1, 2, 3, 4, 5, 6, 7, 8, 9, 10, 11, 12, 13, 14, 15, 16, 17, 18, 19]] [([], [], [], [0], []), ([0], [], [], [0], [0]), ([0, 1], [], [], [0], [0, 1]), ([0, 1, 2], [], [], [0], [0, 1, 2]), ([], [], [], [0], []), ([4], [], [], [0], [4]), ([4, 5], [], [], [0], [4, 5]), ([4, 5, 6], [], [], [0], [4, 5, 6]), ([], [], [], [0], []), ([8], [], [], [0], [8]), ([8, 9], [], [], [0], [8, 9]), ([], [], [], [0], []), ([11], [], [], [0], [11]), ([8, 9, 10, 11, 12], [], [], [0], [8, 9, 10, 11, 12]), ([], [], [], [0], []), ([], [], [], [0], []), ([15], [], [], [0], [15]), ([8, 9, 10, 11, 12, 13, 14, 15, 16], [], [14], [0], [8, 9, 10, 11, 12, 13, 15, 16]), ([0, 1, 2, 3, 4, 5, 6, 7, 8, 9, 10, 11, 12, 13, 14, 15, 16, 17], [], [], [0], [0, 1, 2, 3, 4, 5, 6, 7, 8, 9, 10, 11, 12, 13, 15, 16, 17]), ([], [], [], [0], [])] [0] [0, 1, 2, 3, 4, 5, 6, 7, 8, 9, 10, 11, 12, 13, 15, 16, 17, 18, 19] rfl rfl (by kernel_rfl) ?_
  refine qp_v (fun xs gs hx => q_move rfl) ?_
  refine qp_v (fun xs gs hx => q_idxRd (m := 0) Try.underlying26 sz5 rfl rfl (by omega) (Reads.old hA) (by rw [bys_length]; omega)) ?_
  refine qp_v (fun xs gs hx => q_loadRd Try.underlying5 rfl rfl (Reads.old hA) (bys_at (by omega))) ?_
  refine qp_v (fun xs gs hx => q_as (v := vN (reF l)) (q_conv_nn (p := (l.getD 0 0).toNat) Try.underlying5 Try.underlying3 rfl (by have := reF_lt l; omega)) (by rw [ef])) ?_
  refine qp_v (fun xs gs hx => q_move rfl) ?_
  refine qp_v (fun xs gs hx => q_idxRd (m := 1) Try.underlying26 sz5 rfl rfl (by omega) (Reads.old hA) (by rw [bys_length]; omega)) ?_
  refine qp_v (fun xs gs hx => q_loadRd Try.underlying5 rfl rfl (Reads.old hA) (bys_at (by omega))) ?_
  refine qp_v (fun xs gs hx => q_as (v := vN (reT l)) (q_conv_nn (p := (l.getD 1 0).toNat) Try.underlying5 Try.underlying3 rfl (by have := reT_lt l; omega)) (by rw [et])) ?_
  refine qp_v (fun xs gs hx => q_move rfl) ?_
  refine qp_v (fun xs gs hx => q_slcS (l := 2) Try.underlying26 sz5 rfl ⟨_, rfl⟩ rfl rfl (.inl rfl) (by omega) (by omega) (by omega)) ?_
  refine qp_v (fun xs gs hx => q_callV Try.func34 rfl rfl rfl (fun w1 H1 => ecm ▸ rkey12_calls (l.drop 2) _ _ _ (by simp; omega) (by omega) w1 (Reads.old A2 w1 H1))) ?_
  refine qp_v (fun xs gs hx => q_move rfl) ?_
  refine qp_v (fun xs gs hx => q_slcS (l := 34) (h := 74) Try.underlying26 sz5 rfl ⟨_, rfl⟩ ⟨_, rfl⟩ rfl (.inl rfl) (by omega) (by omega) (by omega)) ?_
  refine qp_v (fun xs gs hx => q_callV Try.func26 rfl rfl rfl (fun w1 H1 => rof_calls ((l.drop 34).take 40) _ _ _ _ _ _ l3.symm (by omega) (by omega) (by omega) ep ex ey w1 (Reads.old A3 w1 H1))) ?_
  refine qp_a (fun xs gs hx => q_litA (cs := bys []) Try.underlying26 in5 (by decide) rfl rfl rfl rfl (by first | (with_reducible first | exact bys_one _ | exact u32s_one _ | exact u64s_one _ | exact i64s_one _ | exact n64s_one _ | assumption) | exact bys_one _ | exact u32s_one _ | exact u64s_one _ | exact i64s_one _ | exact one_all rfl | (refine app_one ?_ ?_ <;> first | exact bys_one _ | exact one_all rfl | (simp; done))) rfl) ?_
  refine qp_v (fun xs gs hx => q_move rfl) ?_
  refine qp_v (fun xs gs hx => q_slcS (l := 76) Try.underlying26 sz5 rfl ⟨_, rfl⟩ rfl rfl (.inl rfl) (by omega) (by omega) (by omega)) ?_
  refine qp_append Try.underlying26 Try.underlying26 in5 rfl (by decide) (fun xs gs hx => rfl) (fun xs gs hx => rfl) (fun xs gs hx => ⟨_, _, rfl, Reads.old A4⟩) (fun xs gs hx => by first | assumption | exact elen _ | exact eone _ _ _ | omega | (rw [zEnvC_eq]; assumption) | (simp only [bys_length, List.length_drop]; omega)) (fun xs gs hx => by first | (with_reducible first | exact bys_one _ | exact u32s_one _ | exact u64s_one _ | exact i64s_one _ | exact n64s_one _ | assumption) | exact bys_one _ | exact u32s_one _ | exact u64s_one _ | exact i64s_one _ | exact one_all rfl | (refine app_one ?_ ?_ <;> first | exact bys_one _ | exact one_all rfl | (simp; done))) (by first | assumption | exact elen _ | exact eone _ _ _ | omega | (rw [zEnvC_eq]; assumption) | (simp only [bys_length, List.length_drop]; omega)) (by first | assumption | exact elen _ | exact eone _ _ _ | omega | (rw [zEnvC_eq]; assumption) | (simp only [bys_length, List.length_drop]; omega)) ?_
  refine qp_v (f := fun xs gs => .agg (envC (reF l) (reT l) (reC l) (rdP (l.drop 34)) (rdM (l.drop 34)) (rdN (l.drop 34)) (xs 17)).toArray) (fun xs gs hx => ?_) ?_
  · obtain ⟨A9, c9, e9, _, _⟩ := hx.2.1 rfl
    simp only [e9]
    first | (exact q_buildS (tot := 69) (sizes := [1, 1, 32, 34, 1]) (vs := [vN (reF l), vN (reT l), .agg (bys (reC l)).toArray, .agg (headC (rdP (l.drop 34)) (rdM (l.drop 34)) (rdN (l.drop 34))).toArray, .slice A9 _ c9]) (by kernel_rfl) rfl rfl rfl rfl (by simp only [List.map_cons, List.map_nil, cellsL, Value.cells, bys_length, lcm, headC_length lpub]; rfl) (by simp only [flatV, cellsL, Value.cells, List.map_cons, List.map_nil, List.flatten_cons, List.flatten_nil, List.append_nil, envC]; rfl))
  refine qp_a (fun xs gs hx => q_alloc zr35 rfl) ?_
  refine qp_end ?_
  intro xs gs hx
  obtain ⟨⟨b33, e33⟩, ⟨A36, c36, e36, hc36, hm36⟩, ⟨b4, e4⟩, _⟩ := hx
  simp only [selI, ownsA, List.contains_cons, List.contains_nil, Nat.reduceBEq, Nat.reduceAdd, Bool.or_false, Bool.or_true, Bool.false_or, Bool.true_or, mask, nRow, nBlk, nRowT, tupAt_0, tupAt_1, List.append_assoc, List.nil_append, List.append_nil, List.cons_append, List.singleton_append, e33, e36, e4]
  simp only [Nat.zero_add, show bys ([] : List UInt8) = [] from rfl, List.nil_append]
  refine VL.keep (Sub.cons (s := 0) rfl (Sub.cons (s := 2) rfl (Sub.cons (s := 3) rfl (Sub.cons (s := 17) rfl (Sub.cons (s := 37) rfl (Sub.cons (s := 4) rfl (Sub.nil _))))))) ?_
  refine l_storeA 2 rfl rfl rfl sz35 (elen _) (eone _ _ _) (by first | assumption | (rw [zEnvC_eq]; assumption)) ?_
  simp only [List.set_cons_zero, List.set_cons_succ]
  refine vl_nil ?_
  refine (qn_n (th_n ?_))
  refine VC_seq ?_
  refine VC_seq ?_
  refine VC_drawV 7 [[], [0], [1], [], [3], [4], [5], [2, 6], [7, 5], [8], [9, 8], [10, 8], [8, 11]] [[], [0], [0, 1], [], [3], [3, 4], [3, 4, 5], [0, 1, 2, 3, 4, 5, 6], [0, 1, 2, 3, 4, 5, 6, 7], [0, 1, 2, 3, 4, 5, 6, 7, 8], [0, 1, 2, 3, 4, 5, 6, 7, 8, 9], [0, 1, 2, 3, 4, 5, 6, 7, 8, 9, 10], [0, 1, 2, 3, 4, 5, 6, 7, 8, 9, 10, 11]] rfl (by kernel_rfl) ?_
  refine qv_v (q_fldA fo35_4 (by decide) rfl rfl) ?_
  refine qv_v (q_load 2 Try.underlying26 rfl rfl rfl (eg4 _)) ?_
  refine qv_v (q_lenS Try.underlying26 rfl) ?_
  refine qv_v (q_move rfl) ?_
  refine qv_v (q_slcS (l := 74) (h := 76) Try.underlying26 sz5 rfl ⟨_, rfl⟩ ⟨_, rfl⟩ rfl (.inl rfl) (by omega) (by omega) (by omega)) ?_
  refine qv_v (q_callV Try.func33 rfl rfl rfl (fun w1 H1 => e1 ▸ l1 ▸ rofHigh_calls ((l.drop 74).take 2) (adv A 74 c 1) (c - 74) w1 (Reads.old A1 w1 H1) (by omega) (by omega))) ?_
  refine qv_v (q_conv_nn Try.underlying45 Try.underlying3 rfl (by omega)) ?_
  refine qv_end ?_
  refine VL.keep (Sub.cons (s := 0) rfl (Sub.cons (s := 2) rfl (Sub.cons (s := 3) rfl (Sub.cons (s := 17) rfl (Sub.cons (s := 4) rfl (Sub.cons (s := 40) rfl (Sub.cons (s := 44) rfl (Sub.nil _)))))))) ?_
  refine vl_v (q_true (q_neq_n Try.underlying3 rfl rfl) (by simpa using (by omega : ¬ m - 76 = reN l))) rfl ?_
  refine vl_v (q_move rfl) rfl ?_
  refine vl_skip rfl rfl ?_
  refine vl_skip rfl rfl ?_
  refine vl_skip rfl rfl ?_
  first | (refine vl_v (q_pickT rfl rfl) rfl ?_) | (refine vl_v (q_pickF rfl rfl) rfl ?_)
  refine vl_nil ?_
  refine (qn_n (th_n ?_))
  refine VC_yes (rfl) ?_
  refine VC_seq ?_
  refine VC_region ?_
  refine vl_v (q_build (c' := zEnvC) rfl (by kernel_rfl)) rfl ?_
  refine l_storeA 0 rfl rfl rfl sz35 (by first | assumption | exact elen _ | exact eone _ _ _ | omega | (rw [zEnvC_eq]; assumption) | (simp only [bys_length, List.length_drop]; omega)) (by first | (with_reducible first | exact bys_one _ | exact u32s_one _ | exact u64s_one _ | exact i64s_one _ | exact n64s_one _ | assumption) | exact bys_one _ | exact u32s_one _ | exact u64s_one _ | exact i64s_one _ | exact one_all rfl | (refine app_one ?_ ?_ <;> first | exact bys_one _ | exact one_all rfl | (simp; done))) (by first | assumption | exact elen _ | exact eone _ _ _ | omega | (rw [zEnvC_eq]; assumption) | (simp only [bys_length, List.length_drop]; omega)) ?_
  simp only [List.set_cons_zero, List.set_cons_succ]
  refine vl_v (q_assign rfl) rfl ?_
  refine vl_nil ?_
  refine (th_n ?_)
  refine VC_ret ?_
  refine (th_r ?_)
  refine ⟨_, resC2 0 rfl Try.underlying35 rfl rfl rfl sz35 (by first | assumption | exact elen _ | exact eone _ _ _ | omega | (rw [zEnvC_eq]; assumption) | (simp only [bys_length, List.length_drop]; omega)) rfl, ?_⟩
  exact rfl
set_option maxHeartbeats 2000000 in
theorem rre_form2 (l : List UInt8) (A : Option Addr) (m c : Nat) (hm : m = l.length) (hc : m ≤ c) (hb : m ≤ 1000000) (h2 : 76 ≤ m) (h3 : 76 + reN l ≤ m) (heq : m = 76 + reN l) (hr : reR l (reN l) = false) (w : World) (hA : SlAt w A (bys l)) :
    Calls Try.prog 16 #[.slice A m c] w fun e w' => e = .returned (.tuple #[.agg zEnvC.toArray, vN 2]) ∧ Kept [] w w' := by
  have lcm : (reC l).length = 32 := by unfold reC; simp; omega
  have lpub : (rdP (l.drop 34)).length = 32 := by unfold rdP; simp; omega
  have hz := zEnvC_length
  have hzo := zEnvC_one
  have A1 := at_take (n := 2) (adv_at (n := 74) hA hm hc)
  have A2 := adv_at (n := 2) hA hm hc
  have A3 := at_take (n := 40) (adv_at (n := 34) hA hm hc)
  have A4 := adv_at (n := 76) hA hm hc
  have l1 : ((l.drop 74).take 2).length = 76 - 74 := by simp; omega
  have l3 : ((l.drop 34).take 40).length = 74 - 34 := by simp; omega
  have e1 : ofHigh (((l.drop 74).take 2).take 8) = reN l := by rw [List.take_of_length_le (by omega)]; rfl
  have ecm : (l.drop 2).take 32 = reC l := rfl
  have ep : rdP ((l.drop 34).take 40) = rdP (l.drop 34) := by unfold rdP; rw [List.take_take]; rfl
  have ex : rdM ((l.drop 34).take 40) = rdM (l.drop 34) := by unfold rdM; rw [List.drop_take, List.take_take]; rfl
  have ey : rdN ((l.drop 34).take 40) = rdN (l.drop 34) := by unfold rdN; rw [List.drop_take, List.take_take]; rfl
  have nlt := reN_lt l
  have ef := reF_eq (l := l) (by omega)
  have et := reT_eq (l := l) (by omega)
  have elen := fun (s : Value) => envC_len (f := reF l) (t := reT l) (p := rdM (l.drop 34)) (q := rdN (l.drop 34)) (sl := s) lcm lpub
  have eg4 := fun (s : Value) => (envC_f (f := reF l) (t := reT l) (p := rdM (l.drop 34)) (q := rdN (l.drop 34)) (sl := s) lcm lpub).g4
  have eone := fun (A : Option Addr) (n c : Nat) => envC_one (f := reF l) (t := reT l) (cm := reC l) (pub := rdP (l.drop 34)) (p := rdM (l.drop 34)) (q := rdN (l.drop 34)) (sl := .slice A n c) rfl
  have hri := fun (n cB : Nat) (B : Option Addr) => rrightE_calls (reF l) (reT l) (reC l) (rdP (l.drop 34)) (rdM (l.drop 34)) (rdN (l.drop 34)) n cB B lcm lpub
  have hr2 : rightEB (reF l) (reT l) (rdM (l.drop 34)) (rdN (l.drop 34)) (m - 76) = false := by rw [show m - 76 = reN l by omega]; exact hr
  have hri2 := fun cB B => hri (m - 76) cB B
  rw [hr2] at hri2
  refine enter (n := 53) (R := fun e M => e = .returned (.tuple #[.agg zEnvC.toArray, vN 2])) [.slice A m c] Try.func16 rfl rfl rfl (St.refl w) ?_ (fun e w' L' h H => ⟨h, H.kept⟩)
  refine VC_seq ?_
  refine VC_region ?_
  refine l_allocA zr35 rfl ?_
  intro b2
  refine vl_v (q_assign rfl) rfl ?_
  refine vl_nil ?_
  refine (th_n ?_)
  refine VC_seq ?_
  refine VC_seq ?_
  refine VC_region ?_
  refine vl_v (q_move rfl) rfl ?_
  refine vl_v (q_lenS Try.underlying26 rfl) rfl ?_
  refine vl_v (q_false (q_lss_n (q := 76) Try.underlying3 rfl rfl) (decide_eq_false (by omega))) rfl ?_
  refine vl_v (q_move rfl) rfl ?_
  refine vl_vg rfl (q_move rfl) rfl ?_
  refine vl_vg rfl (q_lenS Try.underlying26 rfl) rfl ?_
  refine vl_vg rfl (q_move rfl) rfl ?_
  refine vl_vg rfl (q_slcS (l := 74) (h := 76) Try.underlying26 sz5 rfl ⟨_, rfl⟩ ⟨_, rfl⟩ rfl (.inl rfl) (by omega) (by omega) (by omega)) rfl ?_
  refine vl_vg rfl (q_callV Try.func33 rfl rfl rfl (fun w1 H1 => e1 ▸ l1 ▸ rofHigh_calls ((l.drop 74).take 2) (adv A 74 c 1) (c - 74) w1 (Reads.old A1 w1 H1) (by omega) (by omega))) rfl ?_
  refine vl_vg rfl (q_conv_nn Try.underlying45 Try.underlying3 rfl (by omega)) rfl ?_
  first | (refine vl_vg rfl (q_add_n (p := 76) rfl rfl (by omega)) rfl ?_) | (refine vl_vg rfl (q_add_i rfl rfl (by omega) (by omega)) rfl ?_)
  refine vl_vg rfl (q_false (q_lss_n Try.underlying3 rfl rfl) (decide_eq_false (by omega))) rfl ?_
  first | (refine vl_v (q_pickT rfl rfl) rfl ?_) | (refine vl_v (q_pickF rfl rfl) rfl ?_)
  refine vl_nil ?_
  refine (th_n ?_)
  refine VC_no (rfl) ?_
  refine VC_skip ?_
  refine (th_n ?_)
  refine VC_seq ?_
  refine VC_drawQ 20 1 [[], [0], [1], [2], [], [4], [5], [6], [], [8], [9], [], [11], [12, 10], [], [], [15], [14, 16, 13], [3, 7, 10, 13, 17], [], [19, 18, 17, 0, 1, 2, 3, 4, 5, 6, 7, 8, 9, 10, 11, 12, 13, 14, 15, 16]] [[], [0], [0, 1], [0, 1, 2], [], [4], [4, 5], [4, 5, 6], [], [8], [8, 9], [], [11], [8, 9, 10, 11, 12], [], [], [15], [8, 9, 10, 11, 12, 13, 14, 15, 16], [0, 1, 2, 3, 4, 5, 6, 7, 8, 9, 10, 11, 12, 13, 14, 15, 16, 17], [], [0, 1, 2, 3, 4, 5, 6, 7, 8, 9, 10, 11, 12, 13, 14, 15, 16, 17, 18, 19]] [([], [], [], [0], []), ([0], [], [], [0], [0]), ([0, 1], [], [], [0], [0, 1]), ([0, 1, 2], [], [], [0], [0, 1, 2]), ([], [], [], [0], []), ([4], [], [], [0], [4]), ([4, 5], [], [], [0], [4, 5]), ([4, 5, 6], [], [], [0], [4, 5, 6]), ([], [], [], [0], []), ([8], [], [], [0], [8]), ([8, 9], [], [], [0], [8, 9]), ([], [], [], [0], []), ([11], [], [], [0], [11]), ([8, 9, 10, 11, 12], [], [], [0], [8, 9, 10, 11, 12]), ([], [], [], [0], []), ([], [], [], [0], []), ([15], [], [], [0], [15]), ([8, 9, 10, 11, 12, 13, 14, 15, 16], [], [14], [0], [8, 9, 10, 11, 12, 13, 15, 16]), ([0, 1, 2, 3, 4, 5, 6, 7, 8, 9, 10, 11, 12, 13, 14, 15, 16, 17], [], [], [0], [0, 1, 2, 3, 4, 5, 6, 7, 8, 9, 10, 11, 12, 13, 15, 16, 17]), ([], [], [], [0], [])] [0] [0, 1, 2, 3, 4, 5, 6, 7, 8, 9, 10, 11, 12, 13, 15, 16, 17, 18, 19] rfl rfl (by kernel_rfl) ?_
  refine qp_v (fun xs gs hx => q_move rfl) ?_
  refine qp_v (fun xs gs hx => q_idxRd (m := 0) Try.underlying26 sz5 rfl rfl (by omega) (Reads.old hA) (by rw [bys_length]; omega)) ?_
  refine qp_v (fun xs gs hx => q_loadRd Try.underlying5 rfl rfl (Reads.old hA) (bys_at (by omega))) ?_
  refine qp_v (fun xs gs hx => q_as (v := vN (reF l)) (q_conv_nn (p := (l.getD 0 0).toNat) Try.underlying5 Try.underlying3 rfl (by have := reF_lt l; omega)) (by rw [ef])) ?_
  refine qp_v (fun xs gs hx => q_move rfl) ?_
  refine qp_v (fun xs gs hx => q_idxRd (m := 1) Try.underlying26 sz5 rfl rfl (by omega) (Reads.old hA) (by rw [bys_length]; omega)) ?_
  refine qp_v (fun xs gs hx => q_loadRd Try.underlying5 rfl rfl (Reads.old hA) (bys_at (by omega))) ?_
  refine qp_v (fun xs gs hx => q_as (v := vN (reT l)) (q_conv_nn (p := (l.getD 1 0).toNat) Try.underlying5 Try.underlying3 rfl (by have := reT_lt l; omega)) (by rw [et])) ?_
  refine qp_v (fun xs gs hx => q_move rfl) ?_
  refine qp_v (fun xs gs hx => q_slcS (l := 2) Try.underlying26 sz5 rfl ⟨_, rfl⟩ rfl rfl (.inl rfl) (by omega) (by omega) (by omega)) ?_
  refine qp_v (fun xs gs hx => q_callV Try.func34 rfl rfl rfl (fun w1 H1 => ecm ▸ rkey12_calls (l.drop 2) _ _ _ (by simp; omega) (by omega) w1 (Reads.old A2 w1 H1))) ?_
  refine qp_v (fun xs gs hx => q_move rfl) ?_
  refine qp_v (fun xs gs hx => q_slcS (l := 34) (h := 74) Try.underlying26 sz5 rfl ⟨_, rfl⟩ ⟨_, rfl⟩ rfl (.inl rfl) (by omega) (by omega) (by omega)) ?_
  refine qp_v (fun xs gs hx => q_callV Try.func26 rfl rfl rfl (fun w1 H1 => rof_calls ((l.drop 34).take 40) _ _ _ _ _ _ l3.symm (by omega) (by omega) (by omega) ep ex ey w1 (Reads.old A3 w1 H1))) ?_
  refine qp_a (fun xs gs hx => q_litA (cs := bys []) Try.underlying26 in5 (by decide) rfl rfl rfl rfl (by first | (with_reducible first | exact bys_one _ | exact u32s_one _ | exact u64s_one _ | exact i64s_one _ | exact n64s_one _ | assumption) | exact bys_one _ | exact u32s_one _ | exact u64s_one _ | exact i64s_one _ | exact one_all rfl | (refine app_one ?_ ?_ <;> first | exact bys_one _ | exact one_all rfl | (simp; done))) rfl) ?_
  refine qp_v (fun xs gs hx => q_move rfl) ?_
  refine qp_v (fun xs gs hx => q_slcS (l := 76) Try.underlying26 sz5 rfl ⟨_, rfl⟩ rfl rfl (.inl rfl) (by omega) (by omega) (by omega)) ?_
  refine qp_append Try.underlying26 Try.underlying26 in5 rfl (by decide) (fun xs gs hx => rfl) (fun xs gs hx => rfl) (fun xs gs hx => ⟨_, _, rfl, Reads.old A4⟩) (fun xs gs hx => by first | assumption | exact elen _ | exact eone _ _ _ | omega | (rw [zEnvC_eq]; assumption) | (simp only [bys_length, List.length_drop]; omega)) (fun xs gs hx => by first | (with_reducible first | exact bys_one _ | exact u32s_one _ | exact u64s_one _ | exact i64s_one _ | exact n64s_one _ | assumption) | exact bys_one _ | exact u32s_one _ | exact u64s_one _ | exact i64s_one _ | exact one_all rfl | (refine app_one ?_ ?_ <;> first | exact bys_one _ | exact one_all rfl | (simp; done))) (by first | assumption | exact elen _ | exact eone _ _ _ | omega | (rw [zEnvC_eq]; assumption) | (simp only [bys_length, List.length_drop]; omega)) (by first | assumption | exact elen _ | exact eone _ _ _ | omega | (rw [zEnvC_eq]; assumption) | (simp only [bys_length, List.length_drop]; omega)) ?_
  refine qp_v (f := fun xs gs => .agg (envC (reF l) (reT l) (reC l) (rdP (l.drop 34)) (rdM (l.drop 34)) (rdN (l.drop 34)) (xs 17)).toArray) (fun xs gs hx => ?_) ?_
  · obtain ⟨A9, c9, e9, _, _⟩ := hx.2.1 rfl
    simp only [e9]
    first | (exact q_buildS (tot := 69) (sizes := [1, 1, 32, 34, 1]) (vs := [vN (reF l), vN (reT l), .agg (bys (reC l)).toArray, .agg (headC (rdP (l.drop 34)) (rdM (l.drop 34)) (rdN (l.drop 34))).toArray, .slice A9 _ c9]) (by kernel_rfl) rfl rfl rfl rfl (by simp only [List.map_cons, List.map_nil, cellsL, Value.cells, bys_length, lcm, headC_length lpub]; rfl) (by simp only [flatV, cellsL, Value.cells, List.map_cons, List.map_nil, List.flatten_cons, List.flatten_nil, List.append_nil, envC]; rfl))
  refine qp_a (fun xs gs hx => q_alloc zr35 rfl) ?_
  refine qp_end ?_
  intro xs gs hx
  obtain ⟨⟨b33, e33⟩, ⟨A36, c36, e36, hc36, hm36⟩, ⟨b4, e4⟩, _⟩ := hx
  simp only [selI, ownsA, List.contains_cons, List.contains_nil, Nat.reduceBEq, Nat.reduceAdd, Bool.or_false, Bool.or_true, Bool.false_or, Bool.true_or, mask, nRow, nBlk, nRowT, tupAt_0, tupAt_1, List.append_assoc, List.nil_append, List.append_nil, List.cons_append, List.singleton_append, e33, e36, e4]
  simp only [Nat.zero_add, show bys ([] : List UInt8) = [] from rfl, List.nil_append]
  refine VL.keep (Sub.cons (s := 0) rfl (Sub.cons (s := 2) rfl (Sub.cons (s := 3) rfl (Sub.cons (s := 17) rfl (Sub.cons (s := 37) rfl (Sub.cons (s := 4) rfl (Sub.nil _))))))) ?_
  refine l_storeA 2 rfl rfl rfl sz35 (elen _) (eone _ _ _) (by first | assumption | (rw [zEnvC_eq]; assumption)) ?_
  simp only [List.set_cons_zero, List.set_cons_succ]
  refine vl_nil ?_
  refine (qn_n (th_n ?_))
  refine VC_seq ?_
  refine VC_seq ?_
  refine VC_drawV 7 [[], [0], [1], [], [3], [4], [5], [2, 6], [7, 5], [8], [9, 8], [10, 8], [8, 11]] [[], [0], [0, 1], [], [3], [3, 4], [3, 4, 5], [0, 1, 2, 3, 4, 5, 6], [0, 1, 2, 3, 4, 5, 6, 7], [0, 1, 2, 3, 4, 5, 6, 7, 8], [0, 1, 2, 3, 4, 5, 6, 7, 8, 9], [0, 1, 2, 3, 4, 5, 6, 7, 8, 9, 10], [0, 1, 2, 3, 4, 5, 6, 7, 8, 9, 10, 11]] rfl (by kernel_rfl) ?_
  refine qv_v (q_fldA fo35_4 (by decide) rfl rfl) ?_
  refine qv_v (q_load 2 Try.underlying26 rfl rfl rfl (eg4 _)) ?_
  refine qv_v (q_lenS Try.underlying26 rfl) ?_
  refine qv_v (q_move rfl) ?_
  refine qv_v (q_slcS (l := 74) (h := 76) Try.underlying26 sz5 rfl ⟨_, rfl⟩ ⟨_, rfl⟩ rfl (.inl rfl) (by omega) (by omega) (by omega)) ?_
  refine qv_v (q_callV Try.func33 rfl rfl rfl (fun w1 H1 => e1 ▸ l1 ▸ rofHigh_calls ((l.drop 74).take 2) (adv A 74 c 1) (c - 74) w1 (Reads.old A1 w1 H1) (by omega) (by omega))) ?_
  refine qv_v (q_conv_nn Try.underlying45 Try.underlying3 rfl (by omega)) ?_
  refine qv_end ?_
  refine VL.keep (Sub.cons (s := 0) rfl (Sub.cons (s := 2) rfl (Sub.cons (s := 3) rfl (Sub.cons (s := 17) rfl (Sub.cons (s := 4) rfl (Sub.cons (s := 40) rfl (Sub.cons (s := 44) rfl (Sub.nil _)))))))) ?_
  refine vl_v (q_false (q_neq_n Try.underlying3 rfl rfl) (by simpa using (by omega : m - 76 = reN l))) rfl ?_
  refine vl_v (q_move rfl) rfl ?_
  refine vl_vg rfl (q_loads 2 Try.underlying35 rfl rfl rfl sz35 (elen _)) rfl ?_
  refine vl_vg rfl (q_callV Try.func28 rfl rfl rfl (fun w1 H1 => hri2 _ _ w1)) rfl ?_
  refine vl_vg rfl (q_not rfl) rfl ?_
  first | (refine vl_v (q_pickT rfl rfl) rfl ?_) | (refine vl_v (q_pickF rfl rfl) rfl ?_)
  refine vl_nil ?_
  refine (qn_n (th_n ?_))
  refine VC_yes (rfl) ?_
  refine VC_seq ?_
  refine VC_region ?_
  refine vl_v (q_build (c' := zEnvC) rfl (by kernel_rfl)) rfl ?_
  refine l_storeA 0 rfl rfl rfl sz35 (by first | assumption | exact elen _ | exact eone _ _ _ | omega | (rw [zEnvC_eq]; assumption) | (simp only [bys_length, List.length_drop]; omega)) (by first | (with_reducible first | exact bys_one _ | exact u32s_one _ | exact u64s_one _ | exact i64s_one _ | exact n64s_one _ | assumption) | exact bys_one _ | exact u32s_one _ | exact u64s_one _ | exact i64s_one _ | exact one_all rfl | (refine app_one ?_ ?_ <;> first | exact bys_one _ | exact one_all rfl | (simp; done))) (by first | assumption | exact elen _ | exact eone _ _ _ | omega | (rw [zEnvC_eq]; assumption) | (simp only [bys_length, List.length_drop]; omega)) ?_
  simp only [List.set_cons_zero, List.set_cons_succ]
  refine vl_v (q_assign rfl) rfl ?_
  refine vl_nil ?_
  refine (th_n ?_)
  refine VC_ret ?_
  refine (th_r ?_)
  refine ⟨_, resC2 0 rfl Try.underlying35 rfl rfl rfl sz35 (by first | assumption | exact elen _ | exact eone _ _ _ | omega | (rw [zEnvC_eq]; assumption) | (simp only [bys_length, List.length_drop]; omega)) rfl, ?_⟩
  exact rfl
set_option maxHeartbeats 2000000 in
theorem rre_ok (l : List UInt8) (A : Option Addr) (m c : Nat) (hm : m = l.length) (hc : m ≤ c) (hb : m ≤ 1000000) (h2 : 76 ≤ m) (h3 : 76 + reN l ≤ m) (heq : m = 76 + reN l) (hr : reR l (reN l) = true) (w : World) (hA : SlAt w A (bys l)) :
    Calls Try.prog 16 #[.slice A m c] w fun e w' => ∃ x : Option Addr × Nat, e = .returned (.tuple #[.agg (envC (reF l) (reT l) (reC l) (rdP (l.drop 34)) (rdM (l.drop 34)) (rdN (l.drop 34)) (.slice x.1 (m - 76) x.2)).toArray, vN 0]) ∧ St [] w [.row 5 1 (.slice x.1 (m - 76) x.2) (m - 76) (bys (l.drop 76))] w' := by
  have lcm : (reC l).length = 32 := by unfold reC; simp; omega
  have lpub : (rdP (l.drop 34)).length = 32 := by unfold rdP; simp; omega
  have hz := zEnvC_length
  have hzo := zEnvC_one
  have A1 := at_take (n := 2) (adv_at (n := 74) hA hm hc)
  have A2 := adv_at (n := 2) hA hm hc
  have A3 := at_take (n := 40) (adv_at (n := 34) hA hm hc)
  have A4 := adv_at (n := 76) hA hm hc
  have l1 : ((l.drop 74).take 2).length = 76 - 74 := by simp; omega
  have l3 : ((l.drop 34).take 40).length = 74 - 34 := by simp; omega
  have e1 : ofHigh (((l.drop 74).take 2).take 8) = reN l := by rw [List.take_of_length_le (by omega)]; rfl
  have ecm : (l.drop 2).take 32 = reC l := rfl
  have ep : rdP ((l.drop 34).take 40) = rdP (l.drop 34) := by unfold rdP; rw [List.take_take]; rfl
  have ex : rdM ((l.drop 34).take 40) = rdM (l.drop 34) := by unfold rdM; rw [List.drop_take, List.take_take]; rfl
  have ey : rdN ((l.drop 34).take 40) = rdN (l.drop 34) := by unfold rdN; rw [List.drop_take, List.take_take]; rfl
  have nlt := reN_lt l
  have ef := reF_eq (l := l) (by omega)
  have et := reT_eq (l := l) (by omega)
  have elen := fun (s : Value) => envC_len (f := reF l) (t := reT l) (p := rdM (l.drop 34)) (q := rdN (l.drop 34)) (sl := s) lcm lpub
  have eg4 := fun (s : Value) => (envC_f (f := reF l) (t := reT l) (p := rdM (l.drop 34)) (q := rdN (l.drop 34)) (sl := s) lcm lpub).g4
  have eone := fun (A : Option Addr) (n c : Nat) => envC_one (f := reF l) (t := reT l) (cm := reC l) (pub := rdP (l.drop 34)) (p := rdM (l.drop 34)) (q := rdN (l.drop 34)) (sl := .slice A n c) rfl
  have hri := fun (n cB : Nat) (B : Option Addr) => rrightE_calls (reF l) (reT l) (reC l) (rdP (l.drop 34)) (rdM (l.drop 34)) (rdN (l.drop 34)) n cB B lcm lpub
  have hr2 : rightEB (reF l) (reT l) (rdM (l.drop 34)) (rdN (l.drop 34)) (m - 76) = true := by rw [show m - 76 = reN l by omega]; exact hr
  have hri2 := fun cB B => hri (m - 76) cB B
  rw [hr2] at hri2
  refine enter (n := 53) (R := fun e M => ∃ x : Option Addr × Nat, e = .returned (.tuple #[.agg (envC (reF l) (reT l) (reC l) (rdP (l.drop 34)) (rdM (l.drop 34)) (rdN (l.drop 34)) (.slice x.1 (m - 76) x.2)).toArray, vN 0]) ∧ ∀ w', St [] w M w' → St [] w [.row 5 1 (.slice x.1 (m - 76) x.2) (m - 76) (bys (l.drop 76))] w') [.slice A m c] Try.func16 rfl rfl rfl (St.refl w) ?_ (fun e w' L' h H => by obtain ⟨x, h1, h2⟩ := h; exact ⟨x, h1, h2 w' H⟩)
  refine VC_seq ?_
  refine VC_region ?_
  refine l_allocA zr35 rfl ?_
  intro b2
  refine vl_v (q_assign rfl) rfl ?_
  refine vl_nil ?_
  refine (th_n ?_)
  refine VC_seq ?_
  refine VC_seq ?_
  refine VC_region ?_
  refine vl_v (q_move rfl) rfl ?_
  refine vl_v (q_lenS Try.underlying26 rfl) rfl ?_
  refine vl_v (q_false (q_lss_n (q := 76) Try.underlying3 rfl rfl) (decide_eq_false (by omega))) rfl ?_
  refine vl_v (q_move rfl) rfl ?_
  refine vl_vg rfl (q_move rfl) rfl ?_
  refine vl_vg rfl (q_lenS Try.underlying26 rfl) rfl ?_
  refine vl_vg rfl (q_move rfl) rfl ?_
  refine vl_vg rfl (q_slcS (l := 74) (h := 76) Try.underlying26 sz5 rfl ⟨_, rfl⟩ ⟨_, rfl⟩ rfl (.inl rfl) (by omega) (by omega) (by omega)) rfl ?_
  refine vl_vg rfl (q_callV Try.func33 rfl rfl rfl (fun w1 H1 => e1 ▸ l1 ▸ rofHigh_calls ((l.drop 74).take 2) (adv A 74 c 1) (c - 74) w1 (Reads.old A1 w1 H1) (by omega) (by omega))) rfl ?_
  refine vl_vg rfl (q_conv_nn Try.underlying45 Try.underlying3 rfl (by omega)) rfl ?_
  first | (refine vl_vg rfl (q_add_n (p := 76) rfl rfl (by omega)) rfl ?_) | (refine vl_vg rfl (q_add_i rfl rfl (by omega) (by omega)) rfl ?_)
  refine vl_vg rfl (q_false (q_lss_n Try.underlying3 rfl rfl) (decide_eq_false (by omega))) rfl ?_
  first | (refine vl_v (q_pickT rfl rfl) rfl ?_) | (refine vl_v (q_pickF rfl rfl) rfl ?_)
  refine vl_nil ?_
  refine (th_n ?_)
  refine VC_no (rfl) ?_
  refine VC_skip ?_
  refine (th_n ?_)
  refine VC_seq ?_
  refine VC_drawQ 20 1 [[], [0], [1], [2], [], [4], [5], [6], [], [8], [9], [], [11], [12, 10], [], [], [15], [14, 16, 13], [3, 7, 10, 13, 17], [], [19, 18, 17, 0, 1, 2, 3, 4, 5, 6, 7, 8, 9, 10, 11, 12, 13, 14, 15, 16]] [[], [0], [0, 1], [0, 1, 2], [], [4], [4, 5], [4, 5, 6], [], [8], [8, 9], [], [11], [8, 9, 10, 11, 12], [], [], [15], [8, 9, 10, 11, 12, 13, 14, 15, 16], [0, 1, 2, 3, 4, 5, 6, 7, 8, 9, 10, 11, 12, 13, 14, 15, 16, 17], [], [0, 1, 2, 3, 4, 5, 6, 7, 8, 9, 10, 11, 12, 13, 14, 15, 16, 17, 18, 19]] [([], [], [], [0], []), ([0], [], [], [0], [0]), ([0, 1], [], [], [0], [0, 1]), ([0, 1, 2], [], [], [0], [0, 1, 2]), ([], [], [], [0], []), ([4], [], [], [0], [4]), ([4, 5], [], [], [0], [4, 5]), ([4, 5, 6], [], [], [0], [4, 5, 6]), ([], [], [], [0], []), ([8], [], [], [0], [8]), ([8, 9], [], [], [0], [8, 9]), ([], [], [], [0], []), ([11], [], [], [0], [11]), ([8, 9, 10, 11, 12], [], [], [0], [8, 9, 10, 11, 12]), ([], [], [], [0], []), ([], [], [], [0], []), ([15], [], [], [0], [15]), ([8, 9, 10, 11, 12, 13, 14, 15, 16], [], [14], [0], [8, 9, 10, 11, 12, 13, 15, 16]), ([0, 1, 2, 3, 4, 5, 6, 7, 8, 9, 10, 11, 12, 13, 14, 15, 16, 17], [], [], [0], [0, 1, 2, 3, 4, 5, 6, 7, 8, 9, 10, 11, 12, 13, 15, 16, 17]), ([], [], [], [0], [])] [0] [0, 1, 2, 3, 4, 5, 6, 7, 8, 9, 10, 11, 12, 13, 15, 16, 17, 18, 19] rfl rfl (by kernel_rfl) ?_
  refine qp_v (fun xs gs hx => q_move rfl) ?_
  refine qp_v (fun xs gs hx => q_idxRd (m := 0) Try.underlying26 sz5 rfl rfl (by omega) (Reads.old hA) (by rw [bys_length]; omega)) ?_
  refine qp_v (fun xs gs hx => q_loadRd Try.underlying5 rfl rfl (Reads.old hA) (bys_at (by omega))) ?_
  refine qp_v (fun xs gs hx => q_as (v := vN (reF l)) (q_conv_nn (p := (l.getD 0 0).toNat) Try.underlying5 Try.underlying3 rfl (by have := reF_lt l; omega)) (by rw [ef])) ?_
  refine qp_v (fun xs gs hx => q_move rfl) ?_
  refine qp_v (fun xs gs hx => q_idxRd (m := 1) Try.underlying26 sz5 rfl rfl (by omega) (Reads.old hA) (by rw [bys_length]; omega)) ?_
  refine qp_v (fun xs gs hx => q_loadRd Try.underlying5 rfl rfl (Reads.old hA) (bys_at (by omega))) ?_
  refine qp_v (fun xs gs hx => q_as (v := vN (reT l)) (q_conv_nn (p := (l.getD 1 0).toNat) Try.underlying5 Try.underlying3 rfl (by have := reT_lt l; omega)) (by rw [et])) ?_
  refine qp_v (fun xs gs hx => q_move rfl) ?_
  refine qp_v (fun xs gs hx => q_slcS (l := 2) Try.underlying26 sz5 rfl ⟨_, rfl⟩ rfl rfl (.inl rfl) (by omega) (by omega) (by omega)) ?_
  refine qp_v (fun xs gs hx => q_callV Try.func34 rfl rfl rfl (fun w1 H1 => ecm ▸ rkey12_calls (l.drop 2) _ _ _ (by simp; omega) (by omega) w1 (Reads.old A2 w1 H1))) ?_
  refine qp_v (fun xs gs hx => q_move rfl) ?_
  refine qp_v (fun xs gs hx => q_slcS (l := 34) (h := 74) Try.underlying26 sz5 rfl ⟨_, rfl⟩ ⟨_, rfl⟩ rfl (.inl rfl) (by omega) (by omega) (by omega)) ?_
  refine qp_v (fun xs gs hx => q_callV Try.func26 rfl rfl rfl (fun w1 H1 => rof_calls ((l.drop 34).take 40) _ _ _ _ _ _ l3.symm (by omega) (by omega) (by omega) ep ex ey w1 (Reads.old A3 w1 H1))) ?_
  refine qp_a (fun xs gs hx => q_litA (cs := bys []) Try.underlying26 in5 (by decide) rfl rfl rfl rfl (by first | (with_reducible first | exact bys_one _ | exact u32s_one _ | exact u64s_one _ | exact i64s_one _ | exact n64s_one _ | assumption) | exact bys_one _ | exact u32s_one _ | exact u64s_one _ | exact i64s_one _ | exact one_all rfl | (refine app_one ?_ ?_ <;> first | exact bys_one _ | exact one_all rfl | (simp; done))) rfl) ?_
  refine qp_v (fun xs gs hx => q_move rfl) ?_
  refine qp_v (fun xs gs hx => q_slcS (l := 76) Try.underlying26 sz5 rfl ⟨_, rfl⟩ rfl rfl (.inl rfl) (by omega) (by omega) (by omega)) ?_
  refine qp_append Try.underlying26 Try.underlying26 in5 rfl (by decide) (fun xs gs hx => rfl) (fun xs gs hx => rfl) (fun xs gs hx => ⟨_, _, rfl, Reads.old A4⟩) (fun xs gs hx => by first | assumption | exact elen _ | exact eone _ _ _ | omega | (rw [zEnvC_eq]; assumption) | (simp only [bys_length, List.length_drop]; omega)) (fun xs gs hx => by first | (with_reducible first | exact bys_one _ | exact u32s_one _ | exact u64s_one _ | exact i64s_one _ | exact n64s_one _ | assumption) | exact bys_one _ | exact u32s_one _ | exact u64s_one _ | exact i64s_one _ | exact one_all rfl | (refine app_one ?_ ?_ <;> first | exact bys_one _ | exact one_all rfl | (simp; done))) (by first | assumption | exact elen _ | exact eone _ _ _ | omega | (rw [zEnvC_eq]; assumption) | (simp only [bys_length, List.length_drop]; omega)) (by first | assumption | exact elen _ | exact eone _ _ _ | omega | (rw [zEnvC_eq]; assumption) | (simp only [bys_length, List.length_drop]; omega)) ?_
  refine qp_v (f := fun xs gs => .agg (envC (reF l) (reT l) (reC l) (rdP (l.drop 34)) (rdM (l.drop 34)) (rdN (l.drop 34)) (xs 17)).toArray) (fun xs gs hx => ?_) ?_
  · obtain ⟨A9, c9, e9, _, _⟩ := hx.2.1 rfl
    simp only [e9]
    first | (exact q_buildS (tot := 69) (sizes := [1, 1, 32, 34, 1]) (vs := [vN (reF l), vN (reT l), .agg (bys (reC l)).toArray, .agg (headC (rdP (l.drop 34)) (rdM (l.drop 34)) (rdN (l.drop 34))).toArray, .slice A9 _ c9]) (by kernel_rfl) rfl rfl rfl rfl (by simp only [List.map_cons, List.map_nil, cellsL, Value.cells, bys_length, lcm, headC_length lpub]; rfl) (by simp only [flatV, cellsL, Value.cells, List.map_cons, List.map_nil, List.flatten_cons, List.flatten_nil, List.append_nil, envC]; rfl))
  refine qp_a (fun xs gs hx => q_alloc zr35 rfl) ?_
  refine qp_end ?_
  intro xs gs hx
  obtain ⟨⟨b33, e33⟩, ⟨A36, c36, e36, hc36, hm36⟩, ⟨b4, e4⟩, _⟩ := hx
  simp only [selI, ownsA, List.contains_cons, List.contains_nil, Nat.reduceBEq, Nat.reduceAdd, Bool.or_false, Bool.or_true, Bool.false_or, Bool.true_or, mask, nRow, nBlk, nRowT, tupAt_0, tupAt_1, List.append_assoc, List.nil_append, List.append_nil, List.cons_append, List.singleton_append, e33, e36, e4]
  simp only [Nat.zero_add, show bys ([] : List UInt8) = [] from rfl, List.nil_append]
  refine VL.keep (Sub.cons (s := 0) rfl (Sub.cons (s := 2) rfl (Sub.cons (s := 3) rfl (Sub.cons (s := 17) rfl (Sub.cons (s := 37) rfl (Sub.cons (s := 4) rfl (Sub.nil _))))))) ?_
  refine l_storeA 2 rfl rfl rfl sz35 (elen _) (eone _ _ _) (by first | assumption | (rw [zEnvC_eq]; assumption)) ?_
  simp only [List.set_cons_zero, List.set_cons_succ]
  refine vl_nil ?_
  refine (qn_n (th_n ?_))
  refine VC_seq ?_
  refine VC_seq ?_
  refine VC_drawV 7 [[], [0], [1], [], [3], [4], [5], [2, 6], [7, 5], [8], [9, 8], [10, 8], [8, 11]] [[], [0], [0, 1], [], [3], [3, 4], [3, 4, 5], [0, 1, 2, 3, 4, 5, 6], [0, 1, 2, 3, 4, 5, 6, 7], [0, 1, 2, 3, 4, 5, 6, 7, 8], [0, 1, 2, 3, 4, 5, 6, 7, 8, 9], [0, 1, 2, 3, 4, 5, 6, 7, 8, 9, 10], [0, 1, 2, 3, 4, 5, 6, 7, 8, 9, 10, 11]] rfl (by kernel_rfl) ?_
  refine qv_v (q_fldA fo35_4 (by decide) rfl rfl) ?_
  refine qv_v (q_load 2 Try.underlying26 rfl rfl rfl (eg4 _)) ?_
  refine qv_v (q_lenS Try.underlying26 rfl) ?_
  refine qv_v (q_move rfl) ?_
  refine qv_v (q_slcS (l := 74) (h := 76) Try.underlying26 sz5 rfl ⟨_, rfl⟩ ⟨_, rfl⟩ rfl (.inl rfl) (by omega) (by omega) (by omega)) ?_
  refine qv_v (q_callV Try.func33 rfl rfl rfl (fun w1 H1 => e1 ▸ l1 ▸ rofHigh_calls ((l.drop 74).take 2) (adv A 74 c 1) (c - 74) w1 (Reads.old A1 w1 H1) (by omega) (by omega))) ?_
  refine qv_v (q_conv_nn Try.underlying45 Try.underlying3 rfl (by omega)) ?_
  refine qv_end ?_
  refine VL.keep (Sub.cons (s := 0) rfl (Sub.cons (s := 2) rfl (Sub.cons (s := 3) rfl (Sub.cons (s := 17) rfl (Sub.cons (s := 4) rfl (Sub.cons (s := 40) rfl (Sub.cons (s := 44) rfl (Sub.nil _)))))))) ?_
  refine vl_v (q_false (q_neq_n Try.underlying3 rfl rfl) (by simpa using (by omega : m - 76 = reN l))) rfl ?_
  refine vl_v (q_move rfl) rfl ?_
  refine vl_vg rfl (q_loads 2 Try.underlying35 rfl rfl rfl sz35 (elen _)) rfl ?_
  refine vl_vg rfl (q_callV Try.func28 rfl rfl rfl (fun w1 H1 => hri2 _ _ w1)) rfl ?_
  refine vl_vg rfl (q_not rfl) rfl ?_
  first | (refine vl_v (q_pickT rfl rfl) rfl ?_) | (refine vl_v (q_pickF rfl rfl) rfl ?_)
  refine vl_nil ?_
  refine (qn_n (th_n ?_))
  refine VC_no (rfl) ?_
  refine VC_skip ?_
  refine (th_n ?_)
  refine VC_seq ?_
  refine VC_region ?_
  first | (refine vl_v (q_loads 2 Try.underlying35 rfl rfl rfl sz35 (by first | assumption | exact elen _ | exact eone _ _ _ | omega | (rw [zEnvC_eq]; assumption) | (simp only [bys_length, List.length_drop]; omega))) rfl ?_) | (refine vl_v (q_loadsAt 2 Try.underlying35 rfl rfl rfl sz35 (by rfl) (by first | assumption | exact elen _ | exact eone _ _ _ | omega | (rw [zEnvC_eq]; assumption) | (simp only [bys_length, List.length_drop]; omega))) rfl ?_)
  refine l_storeA 0 rfl rfl rfl sz35 (elen _) (eone _ _ _) (by first | assumption | (rw [zEnvC_eq]; assumption)) ?_
  simp only [List.set_cons_zero, List.set_cons_succ]
  refine vl_v (q_assign rfl) rfl ?_
  refine vl_nil ?_
  refine (th_n ?_)
  refine VC_ret ?_
  refine ⟨_, resC2 0 rfl Try.underlying35 rfl rfl rfl sz35 (by first | assumption | exact elen _ | exact eone _ _ _ | omega | (rw [zEnvC_eq]; assumption) | (simp only [bys_length, List.length_drop]; omega)) rfl, ?_⟩
  exact ⟨(_, _), rfl, fun w' H => H.pick (ks := [1]) (by decide) rfl⟩
theorem rreadE_calls (l : List UInt8) (A : Option Addr) (m c : Nat) (hm : m = l.length) (hc : m ≤ c) (hb : m ≤ 1000000) (w : World) (hA : SlAt w A (bys l)) : reCalls 16 l A m c w := by
  by_cases h1 : l.length < 76
  · exact reCalls_bad (k := 3) (by unfold reE; rw [if_pos h1]) (by omega) (rre_short l A m c hm hc (by omega) w hA)
  by_cases h2 : l.length < 76 + reN l
  · exact reCalls_bad (k := 3) (by unfold reE; rw [if_neg h1, if_pos h2]) (by omega) (rre_short2 l A m c hm hc (by omega) (by omega) w hA)
  by_cases h3 : l.length = 76 + reN l
  · cases hr : reR l (reN l) with
    | true =>
      have ho : reOk l = true := by unfold reOk; rw [hr, decide_eq_true h3]; rfl
      refine reCalls_ok (by unfold reE; rw [if_neg h1, if_neg h2, if_pos ho]) (by simp; omega) ?_
      have h := rre_ok l A m c hm hc hb (by omega) (by omega) (by omega) hr w hA
      rw [show m - 76 = reN l by omega] at h
      rw [List.take_of_length_le (by simp; omega)]
      exact h
    | false =>
      have ho : ¬ reOk l = true := by unfold reOk; rw [hr]; simp
      exact reCalls_bad (k := 2) (by unfold reE; rw [if_neg h1, if_neg h2, if_neg ho]) (by omega) (rre_form2 l A m c hm hc hb (by omega) (by omega) (by omega) hr w hA)
  · have ho : ¬ reOk l = true := by unfold reOk; rw [decide_eq_false h3, Bool.and_false]; decide
    exact reCalls_bad (k := 2) (by unfold reE; rw [if_neg h1, if_neg h2, if_neg ho]) (by omega) (rre_form1 l A m c hm hc hb (by omega) (by omega) (by omega) w hA)
set_option maxHeartbeats 2000000 in
theorem same_calls (X Y : EnvD) (A B : Option Addr) (c k : Nat) (hX1 : X.cm.length = 32) (hX2 : X.pub.length = 32) (hY1 : Y.cm.length = 32) (hY2 : Y.pub.length = 32) (fX : Fits (headC X.pub X.p X.q) (List.replicate 32 .u8 ++ [.i64, .i64])) (fY : Fits (headC Y.pub Y.p Y.q) (List.replicate 32 .u8 ++ [.i64, .i64])) (w : World) (hA : SlAt w A (bys X.body)) (hB : SlAt w B (bys Y.body)) :
    Calls Try.prog 17 #[.agg (envOf X (A, c)).toArray, .agg (envOf Y (B, k)).toArray] w fun e w' => e = .returned (.bool (sameEB X Y)) ∧ Kept [] w w' := by
  have hF := envC_f (f := X.f) (t := X.t) (p := X.p) (q := X.q) (sl := .slice A X.body.length c) hX1 hX2
  have hG := envC_f (f := Y.f) (t := Y.t) (p := Y.p) (q := Y.q) (sl := .slice B Y.body.length k) hY1 hY2
  have hX := headC_length hX2 X.p X.q
  have hY := headC_length hY2 Y.p Y.q
  have hi := headC_inj (p := X.p) (q := X.q) (p' := Y.p) (q' := Y.q) hX2 hY2
  unfold envOf
  simp only
  obtain ⟨u, hu⟩ : ∃ u, envC X.f X.t X.cm X.pub X.p X.q (.slice A X.body.length c) = u := ⟨_, rfl⟩
  obtain ⟨v, hv⟩ : ∃ v, envC Y.f Y.t Y.cm Y.pub Y.p Y.q (.slice B Y.body.length k) = v := ⟨_, rfl⟩
  rw [hu] at hF ⊢
  rw [hv] at hG ⊢
  obtain ⟨h0, g0, g1, g2, g3, g4⟩ := hF
  obtain ⟨j0, k0, k1, k2, k3, k4⟩ := hG
  have lX : (bys X.cm).length = 32 := by rw [bys_length]; exact hX1
  have lY : (bys Y.cm).length = 32 := by rw [bys_length]; exact hY1
  refine enter (n := 40) (R := fun e M => e = .returned (.bool (sameEB X Y))) [.agg u.toArray, .agg v.toArray] Try.func17 rfl rfl rfl (St.refl w) ?_ (fun e w' L' h H => ⟨h, H.kept⟩)
  refine VC_seq ?_
  refine VC_region ?_
  refine l_boxA rfl rfl ?_
  intro b2
  refine l_boxA rfl rfl ?_
  intro b3
  refine vl_v (q_assign rfl) rfl ?_
  refine vl_nil ?_
  refine (th_n ?_)
  refine VC_seq ?_
  refine VC_region ?_
  refine vl_v (q_fldA fo35_0 (by decide) rfl rfl) rfl ?_
  refine vl_v (q_load 1 Try.underlying3 rfl rfl rfl g0) rfl ?_
  refine vl_v (q_fldA fo35_0 (by decide) rfl rfl) rfl ?_
  refine vl_v (q_load 0 Try.underlying3 rfl rfl rfl k0) rfl ?_
  refine vl_v (q_eql_k Try.underlying3 rfl rfl) rfl ?_
  by_cases hs9 : X.f = Y.f
  · skip
    rw [show decide (X.f = Y.f) = true from decide_eq_true hs9]
    refine vl_v (q_move rfl) rfl ?_
    refine vl_vg rfl (q_fldA fo35_1 (by decide) rfl rfl) rfl ?_
    refine vl_vg rfl (q_load 1 Try.underlying3 rfl rfl rfl g1) rfl ?_
    refine vl_vg rfl (q_fldA fo35_1 (by decide) rfl rfl) rfl ?_
    refine vl_vg rfl (q_load 0 Try.underlying3 rfl rfl rfl k1) rfl ?_
    refine vl_vg rfl (q_eql_k Try.underlying3 rfl rfl) rfl ?_
    by_cases hs15 : X.t = Y.t
    · skip
      rw [show decide (X.t = Y.t) = true from decide_eq_true hs15]
      first | (refine vl_v (q_pickT rfl rfl) rfl ?_) | (refine vl_v (q_pickF rfl rfl) rfl ?_)
      refine vl_v (q_move rfl) rfl ?_
      refine vl_vg rfl (q_fldA fo35_2 (by decide) rfl rfl) rfl ?_
      refine vl_vg rfl (q_loadsAt 1 Try.underlying23 rfl rfl rfl sz23 g2 lX) rfl ?_
      refine vl_vg rfl (q_fldA fo35_2 (by decide) rfl rfl) rfl ?_
      refine vl_vg rfl (q_loadsAt 0 Try.underlying23 rfl rfl rfl sz23 k2 lY) rfl ?_
      refine vl_vg rfl (q_eqB flat32 rfl rfl (fits_bys' hX1) (fits_bys' hY1)) rfl ?_
      by_cases hs22 : X.cm = Y.cm
      · skip
        rw [show decide (X.cm = Y.cm) = true from decide_eq_true hs22]
        first | (refine vl_v (q_pickT rfl rfl) rfl ?_) | (refine vl_v (q_pickF rfl rfl) rfl ?_)
        refine vl_v (q_move rfl) rfl ?_
        refine vl_vg rfl (q_fldA fo35_3 (by decide) rfl rfl) rfl ?_
        refine vl_vg rfl (q_loadsAt 1 Try.underlying25 rfl rfl rfl sz25 g3 hX) rfl ?_
        refine vl_vg rfl (q_fldA fo35_3 (by decide) rfl rfl) rfl ?_
        refine vl_vg rfl (q_loadsAt 0 Try.underlying25 rfl rfl rfl sz25 k3 hY) rfl ?_
        refine vl_vg rfl (q_eqR flatHead rfl rfl fX fY (r := decide (X.pub = Y.pub ∧ X.p = Y.p ∧ X.q = Y.q)) (by rw [decide_eq_true_iff]; exact hi.symm)) rfl ?_
        by_cases hs29 : X.pub = Y.pub ∧ X.p = Y.p ∧ X.q = Y.q
        · skip
          rw [show decide (X.pub = Y.pub ∧ X.p = Y.p ∧ X.q = Y.q) = true from decide_eq_true hs29]
          first | (refine vl_v (q_pickT rfl rfl) rfl ?_) | (refine vl_v (q_pickF rfl rfl) rfl ?_)
          refine vl_v (q_move rfl) rfl ?_
          refine vl_vg rfl (q_fldA fo35_4 (by decide) rfl rfl) rfl ?_
          refine vl_vg rfl (q_load 1 Try.underlying26 rfl rfl rfl g4) rfl ?_
          refine vl_vg rfl (q_str (l := X.body) Try.underlying26 Try.underlying5 Try.underlying9 rfl (Reads.old hA) rfl) rfl ?_
          refine vl_vg rfl (q_fldA fo35_4 (by decide) rfl rfl) rfl ?_
          refine vl_vg rfl (q_load 0 Try.underlying26 rfl rfl rfl k4) rfl ?_
          refine vl_vg rfl (q_str (l := Y.body) Try.underlying26 Try.underlying5 Try.underlying9 rfl (Reads.old hB) rfl) rfl ?_
          refine vl_vg rfl (q_eqStr Try.underlying9 rfl rfl) rfl ?_
          first | (refine vl_v (q_pickT rfl rfl) rfl ?_) | (refine vl_v (q_pickF rfl rfl) rfl ?_)
          refine vl_v (q_assign rfl) rfl ?_
          refine vl_nil ?_
          refine (th_n ?_)
          refine VC_ret ?_
          refine ⟨_, res1 rfl rfl, ?_⟩
          exact congrArg (fun b => Ending.returned (Value.bool b)) (by unfold sameEB; (first | rw [decide_eq_true hs9, decide_eq_true hs15, decide_eq_true hs22, decide_eq_true hs29] | rw [decide_eq_true hs9, decide_eq_true hs15, decide_eq_true hs22, decide_eq_false hs29] | rw [decide_eq_true hs9, decide_eq_true hs15, decide_eq_false hs22] | rw [decide_eq_true hs9, decide_eq_false hs15] | rw [decide_eq_false hs9]) <;> rfl)
        · skip
          rw [show decide (X.pub = Y.pub ∧ X.p = Y.p ∧ X.q = Y.q) = false from decide_eq_false hs29]
          first | (refine vl_v (q_pickT rfl rfl) rfl ?_) | (refine vl_v (q_pickF rfl rfl) rfl ?_)
          refine vl_v (q_move rfl) rfl ?_
          refine vl_skip rfl rfl ?_
          refine vl_skip rfl rfl ?_
          refine vl_skip rfl rfl ?_
          refine vl_skip rfl rfl ?_
          refine vl_skip rfl rfl ?_
          refine vl_skip rfl rfl ?_
          refine vl_skip rfl rfl ?_
          first | (refine vl_v (q_pickT rfl rfl) rfl ?_) | (refine vl_v (q_pickF rfl rfl) rfl ?_)
          refine vl_v (q_assign rfl) rfl ?_
          refine vl_nil ?_
          refine (th_n ?_)
          refine VC_ret ?_
          refine ⟨_, res1 rfl rfl, ?_⟩
          exact congrArg (fun b => Ending.returned (Value.bool b)) (by unfold sameEB; (first | rw [decide_eq_true hs9, decide_eq_true hs15, decide_eq_true hs22, decide_eq_true hs29] | rw [decide_eq_true hs9, decide_eq_true hs15, decide_eq_true hs22, decide_eq_false hs29] | rw [decide_eq_true hs9, decide_eq_true hs15, decide_eq_false hs22] | rw [decide_eq_true hs9, decide_eq_false hs15] | rw [decide_eq_false hs9]) <;> rfl)
      · skip
        rw [show decide (X.cm = Y.cm) = false from decide_eq_false hs22]
        first | (refine vl_v (q_pickT rfl rfl) rfl ?_) | (refine vl_v (q_pickF rfl rfl) rfl ?_)
        refine vl_v (q_move rfl) rfl ?_
        refine vl_skip rfl rfl ?_
        refine vl_skip rfl rfl ?_
        refine vl_skip rfl rfl ?_
        refine vl_skip rfl rfl ?_
        refine vl_skip rfl rfl ?_
        first | (refine vl_v (q_pickT rfl rfl) rfl ?_) | (refine vl_v (q_pickF rfl rfl) rfl ?_)
        refine vl_v (q_move rfl) rfl ?_
        refine vl_skip rfl rfl ?_
        refine vl_skip rfl rfl ?_
        refine vl_skip rfl rfl ?_
        refine vl_skip rfl rfl ?_
        refine vl_skip rfl rfl ?_
        refine vl_skip rfl rfl ?_
        refine vl_skip rfl rfl ?_
        first | (refine vl_v (q_pickT rfl rfl) rfl ?_) | (refine vl_v (q_pickF rfl rfl) rfl ?_)
        refine vl_v (q_assign rfl) rfl ?_
        refine vl_nil ?_
        refine (th_n ?_)
        refine VC_ret ?_
        refine ⟨_, res1 rfl rfl, ?_⟩
        exact congrArg (fun b => Ending.returned (Value.bool b)) (by unfold sameEB; (first | rw [decide_eq_true hs9, decide_eq_true hs15, decide_eq_true hs22, decide_eq_true hs29] | rw [decide_eq_true hs9, decide_eq_true hs15, decide_eq_true hs22, decide_eq_false hs29] | rw [decide_eq_true hs9, decide_eq_true hs15, decide_eq_false hs22] | rw [decide_eq_true hs9, decide_eq_false hs15] | rw [decide_eq_false hs9]) <;> rfl)
    · skip
      rw [show decide (X.t = Y.t) = false from decide_eq_false hs15]
      first | (refine vl_v (q_pickT rfl rfl) rfl ?_) | (refine vl_v (q_pickF rfl rfl) rfl ?_)
      refine vl_v (q_move rfl) rfl ?_
      refine vl_skip rfl rfl ?_
      refine vl_skip rfl rfl ?_
      refine vl_skip rfl rfl ?_
      refine vl_skip rfl rfl ?_
      refine vl_skip rfl rfl ?_
      first | (refine vl_v (q_pickT rfl rfl) rfl ?_) | (refine vl_v (q_pickF rfl rfl) rfl ?_)
      refine vl_v (q_move rfl) rfl ?_
      refine vl_skip rfl rfl ?_
      refine vl_skip rfl rfl ?_
      refine vl_skip rfl rfl ?_
      refine vl_skip rfl rfl ?_
      refine vl_skip rfl rfl ?_
      first | (refine vl_v (q_pickT rfl rfl) rfl ?_) | (refine vl_v (q_pickF rfl rfl) rfl ?_)
      refine vl_v (q_move rfl) rfl ?_
      refine vl_skip rfl rfl ?_
      refine vl_skip rfl rfl ?_
      refine vl_skip rfl rfl ?_
      refine vl_skip rfl rfl ?_
      refine vl_skip rfl rfl ?_
      refine vl_skip rfl rfl ?_
      refine vl_skip rfl rfl ?_
      first | (refine vl_v (q_pickT rfl rfl) rfl ?_) | (refine vl_v (q_pickF rfl rfl) rfl ?_)
      refine vl_v (q_assign rfl) rfl ?_
      refine vl_nil ?_
      refine (th_n ?_)
      refine VC_ret ?_
      refine ⟨_, res1 rfl rfl, ?_⟩
      exact congrArg (fun b => Ending.returned (Value.bool b)) (by unfold sameEB; (first | rw [decide_eq_true hs9, decide_eq_true hs15, decide_eq_true hs22, decide_eq_true hs29] | rw [decide_eq_true hs9, decide_eq_true hs15, decide_eq_true hs22, decide_eq_false hs29] | rw [decide_eq_true hs9, decide_eq_true hs15, decide_eq_false hs22] | rw [decide_eq_true hs9, decide_eq_false hs15] | rw [decide_eq_false hs9]) <;> rfl)
  · skip
    rw [show decide (X.f = Y.f) = false from decide_eq_false hs9]
    refine vl_v (q_move rfl) rfl ?_
    refine vl_skip rfl rfl ?_
    refine vl_skip rfl rfl ?_
    refine vl_skip rfl rfl ?_
    refine vl_skip rfl rfl ?_
    refine vl_skip rfl rfl ?_
    first | (refine vl_v (q_pickT rfl rfl) rfl ?_) | (refine vl_v (q_pickF rfl rfl) rfl ?_)
    refine vl_v (q_move rfl) rfl ?_
    refine vl_skip rfl rfl ?_
    refine vl_skip rfl rfl ?_
    refine vl_skip rfl rfl ?_
    refine vl_skip rfl rfl ?_
    refine vl_skip rfl rfl ?_
    first | (refine vl_v (q_pickT rfl rfl) rfl ?_) | (refine vl_v (q_pickF rfl rfl) rfl ?_)
    refine vl_v (q_move rfl) rfl ?_
    refine vl_skip rfl rfl ?_
    refine vl_skip rfl rfl ?_
    refine vl_skip rfl rfl ?_
    refine vl_skip rfl rfl ?_
    refine vl_skip rfl rfl ?_
    first | (refine vl_v (q_pickT rfl rfl) rfl ?_) | (refine vl_v (q_pickF rfl rfl) rfl ?_)
    refine vl_v (q_move rfl) rfl ?_
    refine vl_skip rfl rfl ?_
    refine vl_skip rfl rfl ?_
    refine vl_skip rfl rfl ?_
    refine vl_skip rfl rfl ?_
    refine vl_skip rfl rfl ?_
    refine vl_skip rfl rfl ?_
    refine vl_skip rfl rfl ?_
    first | (refine vl_v (q_pickT rfl rfl) rfl ?_) | (refine vl_v (q_pickF rfl rfl) rfl ?_)
    refine vl_v (q_assign rfl) rfl ?_
    refine vl_nil ?_
    refine (th_n ?_)
    refine VC_ret ?_
    refine ⟨_, res1 rfl rfl, ?_⟩
    exact congrArg (fun b => Ending.returned (Value.bool b)) (by unfold sameEB; (first | rw [decide_eq_true hs9, decide_eq_true hs15, decide_eq_true hs22, decide_eq_true hs29] | rw [decide_eq_true hs9, decide_eq_true hs15, decide_eq_true hs22, decide_eq_false hs29] | rw [decide_eq_true hs9, decide_eq_true hs15, decide_eq_false hs22] | rw [decide_eq_true hs9, decide_eq_false hs15] | rw [decide_eq_false hs9]) <;> rfl)
end Go.Proofs.Ytpjjledbmfmbiaa
