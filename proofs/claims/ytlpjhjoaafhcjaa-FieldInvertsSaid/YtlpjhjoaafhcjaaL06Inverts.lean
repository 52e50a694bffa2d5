/- What any number times comes to 1, and the sum of any numbers: the statement FieldInverts. No condition. -/
import Derived.Test.YtlpjhjoaafhcjaaRows
import Derived.Test.YtlpjhjoaafhcjaaA06
import Derived.Test.YtlpjhjoaafhcjaaPS2
namespace Go.Proofs.Ytlpjhjoaafhcjaa
open Go.RowKit Go.PBYtlpjhjoaafhcjaa
set_option linter.unusedVariables false
set_option linter.unusedSimpArgs false
set_option maxRecDepth 10000

def KsArg (w : World) (v : Value) (ks : List (List UInt8)) : Prop := (∃ A c, v = .slice A ks.length c ∧ ks.length ≤ c ∧ SlAt w A (bys ks.flatten)) ∧ ∀ k ∈ ks, k.length = 32
theorem open_keys {H : Type} {enc : TypeId × Value → H} {w : World} {r : Reach} {b0 : Nat} {v : Value} {d : DataW H} {p : List MemPlace} (hv : Value.okWide Try.prog w r b0 40 v) (h : DataW.Trod enc Try.prog w 0 (fun _ => true) true 40 v d p) : ∃ ks, KsArg w v ks := by
  obtain ⟨vs, ⟨A, c, h1, h2, _, h3⟩, h4⟩ := open_flats (ks := List.replicate 32 .u8) 6 Try.underlying40 (by kernel_rfl) (by kernel_rfl) (by decide) hv h
  have key : ∀ vs : List (List Value), (∀ u ∈ vs, Fits u (List.replicate 32 .u8)) → ∃ ks : List (List UInt8), ks.length = vs.length ∧ bys ks.flatten = vs.flatten ∧ ∀ k ∈ ks, k.length = 32 := by
    intro vs
    induction vs with
    | nil => intro _; exact ⟨[], rfl, rfl, by simp⟩
    | cons u vs ih =>
      intro h
      obtain ⟨k, hk, rfl⟩ := (h u (by simp)).bytes
      obtain ⟨ks, e1, e2, e3⟩ := ih (fun x hx => h x (by simp [hx]))
      refine ⟨k :: ks, by simp [e1], by rw [List.flatten_cons, List.flatten_cons, bys_append, e2], fun x hx => ?_⟩
      rcases List.mem_cons.1 hx with rfl | hx
      · exact hk
      · exact e3 x hx
  obtain ⟨ks, e1, e2, e3⟩ := key vs h4
  exact ⟨ks, ⟨A, c, by rw [e1]; exact h1, by rw [e1]; exact h2, by rw [e2]; exact h3⟩, e3⟩
theorem keyAt : ∀ (ks : List (List UInt8)) (i : Nat), (∀ k ∈ ks, k.length = 32) → i < ks.length → ((bys ks.flatten).drop (i * 32)).take 32 = bys (ks.getD i [])
  | [], i, _, h => by simp at h
  | k :: ks, 0, h, _ => by
    have := h k (by simp)
    rw [Nat.zero_mul, List.drop_zero, List.flatten_cons, bys_append, List.take_left' (by rw [bys_length]; exact this)]
    rfl
  | k :: ks, i + 1, h, hi => by
    have he := h k (by simp)
    rw [List.flatten_cons, bys_append, show (i + 1) * 32 = 32 + i * 32 by omega, ← List.drop_drop, List.drop_left' (by rw [bys_length]; exact he), keyAt ks i (fun e' h' => h e' (by simp [h'])) (by simpa using hi)]
    simp
theorem keys_flat : ∀ (ks : List (List UInt8)), (∀ k ∈ ks, k.length = 32) → ks.flatten.length = ks.length * 32
  | [], _ => rfl
  | k :: ks, h => by
    rw [List.flatten_cons, List.length_append, h k (by simp), keys_flat ks (fun e' h' => h e' (by simp [h'])), List.length_cons]
    omega
def rsumSt (ks : List (List UInt8)) : Nat → List Nat
  | 0 => List.replicate 16 0
  | i + 1 => raddL (rsumSt ks i) (rofL (ks.getD i []))
theorem zero_dig : digN (List.replicate 16 0) := digN_of (by rw [cz_rep]; exact ⟨rfl, fun j hj => by rw [rep0]; omega⟩)
theorem getD_32 {ks : List (List UInt8)} (h : ∀ k ∈ ks, k.length = 32) {i : Nat} (hi : i < ks.length) : (ks.getD i []).length = 32 := by
  rw [show ks.getD i [] = ks[i] by simp [hi]]
  exact h _ (List.getElem_mem hi)
theorem rsumSt_dig {ks : List (List UInt8)} (h : ∀ k ∈ ks, k.length = 32) : ∀ i, i ≤ ks.length → digN (rsumSt ks i)
  | 0, _ => zero_dig
  | i + 1, hi => raddL_dig (rsumSt_dig h i (by omega)) (rofL_dig (getD_32 h (by omega)))
theorem es_okE {ks : List (List UInt8)} (h : ∀ k ∈ ks, k.length = 32) : ∀ e ∈ ks.map ofL, okE e := by
  intro e he
  obtain ⟨k, hk, rfl⟩ := List.mem_map.1 he
  exact ofL_okE (h k hk)
theorem es_getD {ks : List (List UInt8)} {i : Nat} (hi : i < ks.length) : (ks.map ofL).getD i [] = ofL (ks.getD i []) := by simp [hi]
theorem sums_eq {ks : List (List UInt8)} (h : ∀ k ∈ ks, k.length = 32) : ∀ i, i ≤ ks.length → ef (sumSt (ks.map ofL) i) = rf (rsumSt ks i)
  | 0, _ => by rw [sumSt, rsumSt, ef_zero, rf, cz_rep, valI_rep]; rfl
  | i + 1, hi => by
    have ih := sums_eq h i (by omega)
    have h32 := getD_32 h (i := i) (by omega)
    rw [sumSt, rsumSt, es_getD (by omega), ef_addL (sumSt_okE (es_okE h) i (by simp; omega)) (ofL_okE h32), rf_addL (rsumSt_dig h i (by omega)) (rofL_dig h32), ih, ef_ofL h32, rf_ofL h32]
theorem es_snoc {ks : List (List UInt8)} {i : Nat} (hi : i < ks.length) : i64s ((ks.map ofL).take i).flatten ++ i64s (ofL (ks.getD i [])) = i64s ((ks.map ofL).take (i + 1)).flatten := by
  rw [List.take_succ_eq_append_getElem (by simpa using hi), List.flatten_append, i64s_append]
  simp [hi]
set_option maxHeartbeats 4000000 in
theorem inverts_good (a : List UInt8) (ks : List (List UInt8)) (A : Option Addr) (c : Nat) (hka : a.length = 32) (hks : ∀ k ∈ ks, k.length = 32) (hn : ks.length ≤ 30) (w : World) (hA : SlAt w A (bys ks.flatten)) :
    Calls Try.prog 6 #[.agg (bys a).toArray, .slice A ks.length c] w fun e w' => e = .returned (.bool true) ∧ Kept [] w w' := by
  have hoa := ofL_okE hka
  have hla := hoa.1
  have hda := rofL_dig hka
  have hfl := keys_flat ks hks
  have hes := es_okE hks
  have hel : (ks.map ofL).length = ks.length := by simp
  have hso := sumSt_okE hes ks.length (by rw [hel]; exact Nat.le_refl _)
  have hrd := rsumSt_dig hks ks.length (Nat.le_refl _)
  have hrdl := hrd.1
  have e1 : keyL (invL (ofL a)) = keyV (valI (cz (rinvL (rofL a)))) := by simp (maxDischargeDepth := 30) only [keyL_kf, keyR_kf, ef_addL, ef_subL, ef_mulL, ef_invL, ef_ofL, rf_addL, rf_subL, rf_mulL, rf_invL, rf_ofL, lf_kf, lf_small, lf_zero, addL_okE, subL_okE, mulL_okE, invL_okE, ofL_okE, raddL_dig, rsubL_dig, rmulL_dig, rinvL_dig, rofL_dig, keyL_length, kf_length, keyV_length, smallB_length, *]
  have e2 : keyL (sumSt (ks.map ofL) ks.length) = keyV (valI (cz (rsumSt ks ks.length))) := by rw [keyL_kf hso, keyR_kf, sums_eq hks ks.length (Nat.le_refl _)]
  refine enter (n := 55) (R := fun e L => e = .returned (.bool true)) [.agg (bys a).toArray, .slice A ks.length c] Try.func6 rfl rfl rfl (St.refl w) ?_ (fun e w' L' h H => ⟨h, H.kept⟩)
  refine VC_seq ?_
  refine VC_region ?_
  refine l_boxA rfl rfl ?_
  intro b2
  refine vl_v (q_assign rfl) rfl ?_
  refine vl_nil ?_
  refine (th_n ?_)
  refine VC_seq ?_
  refine VC_region ?_
  refine vl_v (q_callV Try.func9 rfl rfl rfl (fun w1 H1 => awake6_calls w1)) rfl ?_
  refine vl_v (q_assign rfl) rfl ?_
  refine vl_nil ?_
  refine (th_n ?_)
  refine VC_seq ?_
  refine VC_seq ?_
  refine VC_region ?_
  refine vl_v (q_move rfl) rfl ?_
  refine vl_v (q_lenS Try.underlying40 rfl) rfl ?_
  refine vl_v (q_false (q_gtr_n (q := 30) Try.underlying3 rfl rfl) (by simp; omega)) rfl ?_
  refine vl_nil ?_
  refine (th_n ?_)
  refine VC_no (rfl) ?_
  refine VC_skip ?_
  refine (th_n ?_)
  refine VC_seq ?_
  refine VC_region ?_
  refine vl_v (q_assign rfl) rfl ?_
  refine vl_nil ?_
  refine (th_n ?_)
  refine VC_seq ?_
  refine VC_region ?_
  refine l_allocA zr31 rfl ?_
  intro b7
  simp only [u64s_rep]
  refine vl_nil ?_
  refine (th_n ?_)
  refine VC_seq ?_
  refine VC_seq ?_
  refine VC_nilRow 27 16 ?_
  refine VC_region ?_
  refine vl_v (q_assign rfl) rfl ?_
  refine vl_nil ?_
  refine (th_n ?_)
  refine VC_block ?_
  refine VC_loop (ι := Nat × Option Addr × Nat) (fun x => x.1 ≤ ks.length ∧ x.1 ≤ x.2.2) (fun x => [(1, .slice A ks.length c), (2, vP b2 0), (5, .bool true), (6, .slice x.2.1 x.1 x.2.2), (7, vP b7 0), (8, vN x.1)]) (fun x => [.row 27 16 (.slice x.2.1 x.1 x.2.2) x.1 (i64s ((ks.map ofL).take x.1).flatten), .blk b7 31 (n64s (rsumSt ks x.1)), .blk b2 23 (bys a)]) (fun x => ks.length - x.1) (0, none, 0) (⟨Nat.zero_le _, Nat.zero_le _⟩) (Sub.cons (s := 1) rfl (Sub.cons (s := 2) rfl (Sub.cons (s := 5) rfl (Sub.cons (s := 6) rfl (Sub.cons (s := 7) rfl (Sub.cons (s := 8) rfl (Sub.nil _))))))) (fun w H => H) ?_
  rintro ⟨i, A6, c6⟩ hp
  obtain ⟨hp1, hp2⟩ := hp
  have hp1 : i ≤ ks.length := hp1
  have hp2 : i ≤ c6 := hp2
  have hri := rsumSt_dig hks i hp1
  have hril := hri.1
  refine VC_seq ?_
  refine VC_seq ?_
  refine VC_region ?_
  refine vl_v (q_move rfl) rfl ?_
  refine vl_v (q_move rfl) rfl ?_
  refine vl_v (q_lenS Try.underlying40 rfl) rfl ?_
  first | (refine vl_v (q_lss_n Try.underlying3 rfl rfl) rfl ?_) | (refine vl_v (q_lss_k Try.underlying3 rfl rfl) rfl ?_)
  refine vl_nil ?_
  refine (th_n ?_)
  refine VC_cond rfl (fun ht17 => ?_) (fun ht17 => ?_)
  · skip
    have ht17 := of_decide_eq_true ht17
    refine VC_skip ?_
    refine (th_n ?_)
    refine VC_seq ?_
    refine VC_block ?_
    refine VC_seq ?_
    have ht17 : i < ks.length := ht17
    have h32 := getD_32 hks ht17
    have hoi := ofL_okE h32
    have hoil := hoi.1
    have hdi := rofL_dig h32
    have hdil := hdi.1
    have hr1l := (rsumSt_dig hks (i + 1) ht17).1
    refine VC_region ?_
    refine vl_v (q_move rfl) rfl ?_
    refine vl_v (q_move rfl) rfl ?_
    refine vl_v (q_move rfl) rfl ?_
    refine vl_v (q_idxRdN (m := i) Try.underlying40 sz23 rfl rfl ht17 (Reads.old hA) (by rw [bys_length, hfl]; omega)) rfl ?_
    refine vl_v (q_loadsRd (us := bys (ks.getD i [])) Try.underlying23 rfl sz23 rfl (Reads.old hA) (keyAt ks i hks ht17) (by rw [bys_length]; exact h32) (by decide)) rfl ?_
    refine vl_v (q_callV Try.func10 rfl rfl rfl (fun w1 H1 => of_calls _ h32 w1)) rfl ?_
    refine l_litG [i64s (ofL (ks.getD i []))] Try.underlying41 in27 (by decide) (by decide) rfl rfl rfl (by intro v hv; rw [List.mem_singleton.1 hv, i64s_length]; exact hoil) rfl ?_
    intro b26
    simp only [List.flatten_cons, List.flatten_nil, List.append_nil]
    refine l_append 1 rfl rfl rfl Try.underlying41 Try.underlying41 in27 rfl (by decide) (Reads.row 0 rfl) (by first | omega | with_reducible assumption | (simp only [bys_length, u32s_length, u64s_length, i64s_length, n64s_length, List.length_append]; omega) | (simp only [List.length_set, List.length_replicate, List.length_map, List.length_append, bys_length, u32s_length, u64s_length, i64s_length, List.length_take, List.length_drop, List.length_cons, List.length_nil, *] <;> first | done | omega) | rfl) (by first | with_reducible exact bys_one _ | with_reducible exact u32s_one _ | with_reducible exact u64s_one _ | with_reducible exact i64s_one _ | with_reducible exact n64s_one _ | exact bys_one _ | exact u32s_one _ | exact u64s_one _ | exact i64s_one _ | with_reducible assumption | exact one_all rfl | (refine app_one ?_ ?_ <;> first | exact bys_one _ | (simp; done))) (by first | omega | with_reducible assumption | (simp only [bys_length, u32s_length, u64s_length, i64s_length, n64s_length, List.length_append]; omega) | (simp only [List.length_set, List.length_replicate, List.length_map, List.length_append, bys_length, u32s_length, u64s_length, i64s_length, List.length_take, List.length_drop, List.length_cons, List.length_nil, *] <;> first | done | omega) | rfl) (by first | omega | with_reducible assumption | (simp only [bys_length, u32s_length, u64s_length, i64s_length, n64s_length, List.length_append]; omega) | (simp only [List.length_set, List.length_replicate, List.length_map, List.length_append, bys_length, u32s_length, u64s_length, i64s_length, List.length_take, List.length_drop, List.length_cons, List.length_nil, *] <;> first | done | omega) | rfl) rfl ?_
    intro A27 c27 hc27
    simp only [List.set_cons_zero, List.set_cons_succ, ← bys_append, ← u32s_append, ← u64s_append, ← i64s_append, List.nil_append, Nat.zero_add]
    refine vl_v (q_assign rfl) rfl ?_
    rw [show i64s (((ks.map ofL).take i).flatten ++ ofL (ks.getD i [])) = i64s ((ks.map ofL).take (i + 1)).flatten by rw [← es_snoc ht17, i64s_append]]
    refine vl_nil ?_
    refine (th_n ?_)
    refine VC_drawV 6 [[], [], [], [1, 2], [3], [4], [0, 5], [6, 0, 1, 2, 3, 4, 5]] [[], [], [], [1, 2], [1, 2, 3], [1, 2, 3, 4], [0, 1, 2, 3, 4, 5], [0, 1, 2, 3, 4, 5, 6]] rfl (by kernel_rfl) ?_
    first | (refine qv_v (q_loads 2 Try.underlying31 rfl rfl rfl sz31 (by first | omega | with_reducible assumption | (simp only [bys_length, u32s_length, u64s_length, i64s_length, n64s_length, List.length_append]; omega) | (simp only [List.length_set, List.length_replicate, List.length_map, List.length_append, bys_length, u32s_length, u64s_length, i64s_length, List.length_take, List.length_drop, List.length_cons, List.length_nil, *] <;> first | done | omega) | rfl)) ?_) | (refine qv_v (q_loadsAt 2 Try.underlying31 rfl rfl rfl sz31 (by rfl) (by first | omega | with_reducible assumption | (simp only [bys_length, u32s_length, u64s_length, i64s_length, n64s_length, List.length_append]; omega) | (simp only [List.length_set, List.length_replicate, List.length_map, List.length_append, bys_length, u32s_length, u64s_length, i64s_length, List.length_take, List.length_drop, List.length_cons, List.length_nil, *] <;> first | done | omega) | rfl)) ?_)
    refine qv_v (q_move rfl) ?_
    refine qv_v (q_move rfl) ?_
    refine qv_v (q_idxRdN (m := i) Try.underlying40 sz23 rfl rfl ht17 (Reads.old hA) (by rw [bys_length, hfl]; omega)) ?_
    refine qv_v (q_loadsRd (us := bys (ks.getD i [])) Try.underlying23 rfl sz23 rfl (Reads.old hA) (keyAt ks i hks ht17) (by rw [bys_length]; exact h32) (by decide)) ?_
    refine qv_v (q_callV Try.func11 rfl rfl rfl (fun w1 H1 => rof_calls _ h32 w1)) ?_
    refine qv_end ?_
    refine VL.keep (Sub.cons (s := 1) rfl (Sub.cons (s := 2) rfl (Sub.cons (s := 5) rfl (Sub.cons (s := 6) rfl (Sub.cons (s := 7) rfl (Sub.cons (s := 8) rfl (Sub.cons (s := 17) rfl (Sub.cons (s := 28) rfl (Sub.cons (s := 33) rfl (Sub.nil _)))))))))) ?_
    refine vl_v (q_as (v := .agg (n64s (rsumSt ks (i + 1))).toArray) (q_callV Try.func15 rfl rfl rfl (fun w1 H1 => radd_calls _ _ hri hdi w1)) (by rw [rsumSt])) rfl ?_
    refine l_storeA 2 rfl rfl rfl sz31 (by first | omega | with_reducible assumption | (simp only [bys_length, u32s_length, u64s_length, i64s_length, n64s_length, List.length_append]; omega) | (simp only [List.length_set, List.length_replicate, List.length_map, List.length_append, bys_length, u32s_length, u64s_length, i64s_length, List.length_take, List.length_drop, List.length_cons, List.length_nil, *] <;> first | done | omega) | rfl) (by first | with_reducible exact bys_one _ | with_reducible exact u32s_one _ | with_reducible exact u64s_one _ | with_reducible exact i64s_one _ | with_reducible exact n64s_one _ | exact bys_one _ | exact u32s_one _ | exact u64s_one _ | exact i64s_one _ | with_reducible assumption | exact one_all rfl | (refine app_one ?_ ?_ <;> first | exact bys_one _ | (simp; done))) (by first | omega | with_reducible assumption | (simp only [bys_length, u32s_length, u64s_length, i64s_length, n64s_length, List.length_append]; omega) | (simp only [List.length_set, List.length_replicate, List.length_map, List.length_append, bys_length, u32s_length, u64s_length, i64s_length, List.length_take, List.length_drop, List.length_cons, List.length_nil, *] <;> first | done | omega) | rfl) ?_
    simp only [List.set_cons_zero, List.set_cons_succ]
    refine vl_nil ?_
    refine (qn_n (bl_n (th_n ?_)))
    refine VC_region ?_
    refine vl_v (q_move rfl) rfl ?_
    first | (refine vl_v (q_add_n (q := 1) rfl rfl (by omega)) rfl ?_) | (refine vl_v (q_add_i rfl rfl (by omega) (by omega)) rfl ?_)
    refine vl_v (q_assign rfl) rfl ?_
    refine vl_nil ?_
    refine (th_n ?_)
    refine ⟨(i + 1, A27, c27), ⟨by show i + 1 ≤ ks.length; omega, hc27⟩, by show ks.length - (i + 1) < ks.length - i; omega, (Sub.cons (s := 1) rfl (Sub.cons (s := 2) rfl (Sub.cons (s := 5) rfl (Sub.cons (s := 6) rfl (Sub.cons (s := 7) rfl (Sub.cons (s := 8) rfl (Sub.nil _))))))), fun w H => St.pick H (ks := [1, 2, 3]) (by decide) rfl⟩
  · skip
    have ht17 := of_decide_eq_false ht17
    obtain rfl : i = ks.length := by omega
    refine VC_exit ?_
    refine (th_x (th_x (bl_xs (th_n ?_))))
    refine VC_seq ?_
    refine VC_drawV 17 [[], [0], [1], [2, 1], [3, 1], [4, 1], [1], [6, 5, 1], [7, 1], [8, 1], [5, 9, 1], [1, 10], [11, 9], [12], [13, 12], [14, 12], [12], [16, 15, 12], [15, 17, 12], [12, 18], [19, 17, 0, 1, 2, 3, 4, 5, 6, 7, 8, 9, 10, 11, 12, 13, 14, 15, 16, 18]] [[], [0], [0, 1], [0, 1, 2], [0, 1, 2, 3], [0, 1, 2, 3, 4], [0, 1], [0, 1, 2, 3, 4, 5, 6], [0, 1, 2, 3, 4, 5, 6, 7], [0, 1, 2, 3, 4, 5, 6, 7, 8], [0, 1, 2, 3, 4, 5, 6, 7, 8, 9], [0, 1, 2, 3, 4, 5, 6, 7, 8, 9, 10], [0, 1, 2, 3, 4, 5, 6, 7, 8, 9, 10, 11], [0, 1, 2, 3, 4, 5, 6, 7, 8, 9, 10, 11, 12], [0, 1, 2, 3, 4, 5, 6, 7, 8, 9, 10, 11, 12, 13], [0, 1, 2, 3, 4, 5, 6, 7, 8, 9, 10, 11, 12, 13, 14], [0, 1, 2, 3, 4, 5, 6, 7, 8, 9, 10, 11, 12], [0, 1, 2, 3, 4, 5, 6, 7, 8, 9, 10, 11, 12, 13, 14, 15, 16], [0, 1, 2, 3, 4, 5, 6, 7, 8, 9, 10, 11, 12, 13, 14, 15, 16, 17], [0, 1, 2, 3, 4, 5, 6, 7, 8, 9, 10, 11, 12, 13, 14, 15, 16, 17, 18], [0, 1, 2, 3, 4, 5, 6, 7, 8, 9, 10, 11, 12, 13, 14, 15, 16, 17, 18, 19]] rfl (by kernel_rfl) ?_
    refine qv_v (q_move rfl) ?_
    refine qv_v (q_move rfl) ?_
    first | (refine qv_vg (rfl) (q_loads 2 Try.underlying23 rfl rfl rfl sz23 (by first | omega | with_reducible assumption | (simp only [bys_length, u32s_length, u64s_length, i64s_length, n64s_length, List.length_append]; omega) | (simp only [List.length_set, List.length_replicate, List.length_map, List.length_append, bys_length, u32s_length, u64s_length, i64s_length, List.length_take, List.length_drop, List.length_cons, List.length_nil, *] <;> first | done | omega) | rfl)) ?_) | (refine qv_vg (rfl) (q_loadsAt 2 Try.underlying23 rfl rfl rfl sz23 (by rfl) (by first | omega | with_reducible assumption | (simp only [bys_length, u32s_length, u64s_length, i64s_length, n64s_length, List.length_append]; omega) | (simp only [List.length_set, List.length_replicate, List.length_map, List.length_append, bys_length, u32s_length, u64s_length, i64s_length, List.length_take, List.length_drop, List.length_cons, List.length_nil, *] <;> first | done | omega) | rfl)) ?_)
    refine qv_vg (rfl) (q_callV Try.func10 rfl rfl rfl (fun w1 H1 => of_calls _ hka w1)) ?_
    refine qv_vg (rfl) (q_callV Try.func20 rfl rfl rfl (fun w1 H1 => inv_calls _ hoa w1)) ?_
    refine qv_vg (rfl) (q_callV Try.func12 rfl rfl rfl (fun w1 H1 => key_calls _ (invL_okE hoa) w1)) ?_
    first | (refine qv_vg (rfl) (q_loads 2 Try.underlying23 rfl rfl rfl sz23 (by first | omega | with_reducible assumption | (simp only [bys_length, u32s_length, u64s_length, i64s_length, n64s_length, List.length_append]; omega) | (simp only [List.length_set, List.length_replicate, List.length_map, List.length_append, bys_length, u32s_length, u64s_length, i64s_length, List.length_take, List.length_drop, List.length_cons, List.length_nil, *] <;> first | done | omega) | rfl)) ?_) | (refine qv_vg (rfl) (q_loadsAt 2 Try.underlying23 rfl rfl rfl sz23 (by rfl) (by first | omega | with_reducible assumption | (simp only [bys_length, u32s_length, u64s_length, i64s_length, n64s_length, List.length_append]; omega) | (simp only [List.length_set, List.length_replicate, List.length_map, List.length_append, bys_length, u32s_length, u64s_length, i64s_length, List.length_take, List.length_drop, List.length_cons, List.length_nil, *] <;> first | done | omega) | rfl)) ?_)
    refine qv_vg (rfl) (q_callV Try.func11 rfl rfl rfl (fun w1 H1 => rof_calls _ hka w1)) ?_
    refine qv_vg (rfl) (q_callV Try.func21 rfl rfl rfl (fun w1 H1 => rinv_calls _ hda w1)) ?_
    refine qv_vg (rfl) (q_callV Try.func13 rfl rfl rfl (fun w1 H1 => rkeyD_calls _ (rinvL_dig hda) w1)) ?_
    refine qv_vg (rfl) (q_eqT flat32 rfl rfl (fits_bys' (by first | with_reducible assumption | with_reducible exact keyL_length _ | with_reducible exact kf_length _ | with_reducible exact keyV_length _ | with_reducible exact smallB_length _)) (congrArg bys e1)) ?_
    first | (refine qv_v (q_pickT rfl rfl) ?_) | (refine qv_v (q_pickF rfl rfl) ?_)
    refine qv_v (q_move rfl) ?_
    refine qv_vg (rfl) (q_move rfl) ?_
    refine qv_vg (rfl) (q_as (v := .agg (i64s (sumSt (ks.map ofL) ks.length)).toArray) (q_callV Try.func22 rfl rfl rfl (fun w1 H1 => sum_calls (ks.map ofL) hes _ ks.length _ hel.symm (by rw [hel]; omega) w1 (by have h := Reads.row 0 rfl w1 H1; rw [List.take_of_length_le (by rw [hel]; omega)] at h; exact h))) (by rw [hel])) ?_
    refine qv_vg (rfl) (q_callV Try.func12 rfl rfl rfl (fun w1 H1 => key_calls _ hso w1)) ?_
    first | (refine qv_vg (rfl) (q_loads 1 Try.underlying31 rfl rfl rfl sz31 (by first | omega | with_reducible assumption | (simp only [bys_length, u32s_length, u64s_length, i64s_length, n64s_length, List.length_append]; omega) | (simp only [List.length_set, List.length_replicate, List.length_map, List.length_append, bys_length, u32s_length, u64s_length, i64s_length, List.length_take, List.length_drop, List.length_cons, List.length_nil, *] <;> first | done | omega) | rfl)) ?_) | (refine qv_vg (rfl) (q_loadsAt 1 Try.underlying31 rfl rfl rfl sz31 (by rfl) (by first | omega | with_reducible assumption | (simp only [bys_length, u32s_length, u64s_length, i64s_length, n64s_length, List.length_append]; omega) | (simp only [List.length_set, List.length_replicate, List.length_map, List.length_append, bys_length, u32s_length, u64s_length, i64s_length, List.length_take, List.length_drop, List.length_cons, List.length_nil, *] <;> first | done | omega) | rfl)) ?_)
    refine qv_end ?_
    refine VL.keep (Sub.cons (s := 1) rfl (Sub.cons (s := 2) rfl (Sub.cons (s := 5) rfl (Sub.cons (s := 6) rfl (Sub.cons (s := 7) rfl (Sub.cons (s := 8) rfl (Sub.cons (s := 17) rfl (Sub.cons (s := 47) rfl (Sub.cons (s := 50) rfl (Sub.cons (s := 51) rfl (Sub.nil _))))))))))) ?_
    refine vl_vg rfl (q_callV Try.func13 rfl rfl rfl (fun w1 H1 => rkeyD_calls _ hrd w1)) rfl ?_
    refine vl_vg rfl (q_eqT flat32 rfl rfl (fits_bys' (by first | with_reducible assumption | with_reducible exact keyL_length _ | with_reducible exact kf_length _ | with_reducible exact keyV_length _ | with_reducible exact smallB_length _)) (congrArg bys e2)) rfl ?_
    first | (refine vl_v (q_pickT rfl rfl) rfl ?_) | (refine vl_v (q_pickF rfl rfl) rfl ?_)
    refine vl_v (q_assign rfl) rfl ?_
    refine vl_nil ?_
    refine (qn_n (th_n ?_))
    refine VC_ret ?_
    refine ⟨_, res1 rfl rfl, ?_⟩
    exact rfl
set_option maxHeartbeats 2000000 in
theorem inverts_long (a : List UInt8) (ks : List (List UInt8)) (A : Option Addr) (c : Nat) (hn : ¬ ks.length ≤ 30) (w : World) :
    Calls Try.prog 6 #[.agg (bys a).toArray, .slice A ks.length c] w fun e w' => e = .returned (.bool true) ∧ Kept [] w w' := by
  refine enter (n := 55) (R := fun e L => e = .returned (.bool true)) [.agg (bys a).toArray, .slice A ks.length c] Try.func6 rfl rfl rfl (St.refl w) ?_ (fun e w' L' h H => ⟨h, H.kept⟩)
  refine VC_seq ?_
  refine VC_region ?_
  refine l_boxA rfl rfl ?_
  intro b2
  refine vl_v (q_assign rfl) rfl ?_
  refine vl_nil ?_
  refine (th_n ?_)
  refine VC_seq ?_
  refine VC_region ?_
  refine vl_v (q_callV Try.func9 rfl rfl rfl (fun w1 H1 => awake6_calls w1)) rfl ?_
  refine vl_v (q_assign rfl) rfl ?_
  refine vl_nil ?_
  refine (th_n ?_)
  refine VC_seq ?_
  refine VC_seq ?_
  refine VC_region ?_
  refine vl_v (q_move rfl) rfl ?_
  refine vl_v (q_lenS Try.underlying40 rfl) rfl ?_
  refine vl_v (q_true (q_gtr_n (q := 30) Try.underlying3 rfl rfl) (decide_eq_true (by omega))) rfl ?_
  refine vl_nil ?_
  refine (th_n ?_)
  refine VC_yes (rfl) ?_
  refine VC_seq ?_
  refine VC_region ?_
  refine vl_v (q_move rfl) rfl ?_
  refine vl_v (q_assign rfl) rfl ?_
  refine vl_nil ?_
  refine (th_n ?_)
  refine VC_ret ?_
  refine (th_r ?_)
  refine ⟨_, res1 rfl rfl, ?_⟩
  exact rfl
theorem fieldInverts.walk (w : World) (v0 : Value) (a : List UInt8) (h0 : KeyV v0 a) (v1 : Value) (ks : List (List UInt8)) (h1 : KsArg w v1 ks) :
    Calls Try.prog 6 #[v0, v1] w fun e w' => e = .returned (.bool true) ∧ Kept [] w w' := by
  obtain ⟨rfl, hka⟩ := h0
  obtain ⟨⟨A, c, rfl, hc, hA⟩, hks⟩ := h1
  by_cases hn : ks.length ≤ 30
  · exact inverts_good a ks A c hka hks hn w hA
  · exact inverts_long a ks A c hn w

namespace fieldInverts
open Go.ChangeShapes Go.WideShapes Go.ChangeAt Go.RowKit
theorem own : ownKnob Try.prog.godebug = none := by kernel_rfl
theorem laidOut : laidOutB Try.prog = true := by kernel_rfl
set_option maxRecDepth 100000 in
theorem lifted (os : Os) (started : os.Started) (H : Type) (enc : TypeId × Value → H) :
    ReturnsInHanded {} Try.checked os 6 .any (Rows.fieldInvertsSpec.pre6 enc Try.prog Try.f6 Rows.fieldInvertsRow.domain false) (Rows.fieldInvertsSpec.post enc Try.prog Try.f6 false true false false) := by
  refine returnsInHanded_of_change (C := Try.checked) own started (by kernel_rfl) Try.func6
    (ChangeSpec.witness6 (enc := enc) (C := Try.checked) false ⟨#[], #[(.agg (List.replicate 32 (Value.int .u8 0)).toArray), .slice none 0 0], []⟩ 8 (by kernel_rfl) (by kernel_rfl) (by kernel_rfl) (by kernel_rfl)) ?_
  intro W base args ds gs before hval0 hW hcnd _
  have hval : ∀ (j : Nat) t v, Try.f6.params[j]? = some t → args[j]? = some v → Value.okWide Try.prog W .any base t v := hval0
  have hW' := hW
  obtain ⟨p, q, hA0, hV, rfl, hfz, hnd⟩ := hW
  have hA : DataW.TrodAll enc Try.prog W 0 (fun _ => true) true Try.f6.params.toList args.toList ds p := hA0
  rw [Try.params6] at hA hval
  obtain ⟨v0, vs0, d0, ds0, p0, q0, hargs, rfl, rfl, h0, r0⟩ := trodAll_cons hA
  obtain ⟨v1, vs1, d1, ds1, p1, q1, rfl, rfl, rfl, h1, r1⟩ := trodAll_cons r0
  obtain ⟨rfl, rfl, rfl⟩ := trodAll_nil r1
  obtain rfl : args = #[v0, v1] := by cases args; simp_all
  obtain ⟨rfl, rfl⟩ := trodVars_none hV
  have k0 := h0
  have lt0 : ∀ x ∈ p0, x.block < W.heap.size := by obtain ⟨m, hm⟩ := k0; exact DataW.trod_lt m _ _ _ hm
  have k1 := h1
  have lt1 : ∀ x ∈ p1, x.block < W.heap.size := by obtain ⟨m, hm⟩ := k1; exact DataW.trod_lt m _ _ _ hm
  obtain ⟨cs0, e0, f0⟩ := open_flat (ks := (List.replicate 32 .u8)) 6 (by kernel_rfl) (by kernel_rfl) (hval 0 23 v0 rfl rfl) h0
  subst e0
  obtain ⟨l0, g0⟩ := open_key f0
  obtain ⟨l1, g1⟩ := open_keys (hval 1 40 v1 rfl rfl) h1
  clear hA0 hval0
  refine (fieldInverts.walk W _ l0 g0 v1 l1 g1).mono fun e W' ⟨he, hK⟩ => ?_
  subst he
  have bel := hK.below
  exact ⟨_, rfl, _, _, _, [], _, [], hW', trodAll_mk1 (shut_bool Try.underlying4 _), (trodAll_cons_mk (Below.trod laidOut (by kernel_rfl) (of_decide_eq_true (by kernel_rfl)) k0 bel lt0) (trodAll_cons_mk (Below.trod laidOut (by kernel_rfl) (of_decide_eq_true (by kernel_rfl)) k1 bel lt1) trodAll_mk0)), rfl, bel.frame _, fun h => by cases h⟩
theorem over : Rows.fieldInvertsRow.holds Try.pinned (OpenSpec.ofChange Rows.fieldInvertsSpec) :=
  OpenClaim.holds_of_wide 6 Try.f6 rfl rfl rfl rfl rfl rfl rfl ⟨rfl, rfl, rfl, rfl, rfl⟩ rfl rfl rfl rfl rfl (by kernel_rfl) Try.func6 (by kernel_rfl)
    (of_decide_eq_true (by kernel_rfl)) (by unfold Func.isWrapper; first | (rw [if_pos (by decide +kernel)]; kernel_rfl) | (rw [if_neg (by decide +kernel)]; exact ⟨rfl, rfl⟩))
    (fun os started H enc _ => lifted os started H enc)
theorem proved : Rows.FieldInvertsSaid := over
end fieldInverts
/-- The row. -/
theorem fieldInverts_holds : Rows.FieldInvertsSaid := fieldInverts.proved
#print axioms fieldInverts_holds
end Go.Proofs.Ytlpjhjoaafhcjaa
