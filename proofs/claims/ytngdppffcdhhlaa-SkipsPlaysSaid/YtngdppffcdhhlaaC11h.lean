/- The document's store (palfreyref11): a key is taken; both calls among other things. No condition. -/
import Derived.Test.YtngdppffcdhhlaaC11g
namespace Go.Proofs.Ytngdppffcdhhlaa
open Go Go.RowKit Go.PBYtngdppffcdhhlaa
set_option linter.unusedVariables false
set_option linter.unusedSimpArgs false
set_option maxRecDepth 10000

theorem dput_calls {S : List Nat} {w0 w : World} {br c : Nat} {r : Res} {A : Option Addr} {L : List Ent} {R : List Res} (e : Ent) (lp : e.p.length = 32) (lk : e.k.length = 32) (hnw : (Lit.int .i64 e.n).wf = true) (hr : ∀ w'', r.ok w'' → SlAt w'' A (keptC L)) (hc : L.length ≤ c) (H : St S w0 ([.blk br 41 [.slice A L.length c], r] ++ R) w) (hG : GoodL L) (hl : L.length ≤ 8) :
    Calls Try.prog 13 #[vP br 0, .agg (bys e.p).toArray, vI e.n, .agg (bys e.k).toArray] w fun r w' => r = .returned (.int .i64 (putR L e).1) ∧ DocC S w0 br (putR L e).2 R w' := by
  unfold putR
  by_cases h1 : e.n < 0
  · rw [if_pos h1]
    exact (dput_neg e lp lk hnw hr hc H.own hG hl h1).mono fun r w' h => ⟨h.1, DocC.swap H h.2⟩
  · rw [if_neg h1]
    by_cases h2 : e.key ∈ L.map Ent.key
    · rw [if_pos h2]
      exact (dput_twice e lp lk hnw hr hc H.own hG hl h1 h2).mono fun r w' h => ⟨h.1, DocC.swap H h.2⟩
    · rw [if_neg h2]
      by_cases h3 : L.length < 8
      · have e1 : (L ++ [e]).drop (L.length + 1 - 8) = L ++ [e] := by rw [show L.length + 1 - 8 = 0 by omega, List.drop_zero]
        simp only [e1]
        exact (dput_new e lp lk hnw hr hc H.own hG hl h1 h2 h3).mono fun r w' h => ⟨h.1, DocC.swap H h.2⟩
      · have e1 : (L ++ [e]).drop (L.length + 1 - 8) = (L ++ [e]).eraseIdx 0 := by rw [show L.length + 1 - 8 = 1 by omega, List.eraseIdx_zero, List.drop_one]
        simp only [e1]
        exact (dput_full e lp lk hnw hr hc H.own hG hl h1 h2 (by omega)).mono fun r w' h => ⟨h.1, DocC.swap H h.2⟩
theorem kept_take {L : List Ent} {j : Nat} (hj : j ≤ L.length) (hok : ∀ x ∈ L, x.ok) : keptC (L.take j) = (keptC L).take (j * 65) ∧ keptC (L.drop j) = (keptC L).drop (j * 65) := by
  have h1 : keptC L = keptC (L.take j) ++ keptC (L.drop j) := by rw [← keptC_append, List.take_append_drop]
  have h2 : (keptC (L.take j)).length = j * 65 := by rw [keptC_length (fun x hx => hok x (List.mem_of_mem_take hx)), List.length_take, Nat.min_eq_left hj]
  rw [h1, List.take_left' h2, List.drop_left' h2]
  exact ⟨rfl, rfl⟩
theorem kept_erase {L : List Ent} {j : Nat} (hj : j < L.length) (hok : ∀ x ∈ L, x.ok) : keptC (L.eraseIdx j) = (keptC L).take (j * 65) ++ (keptC L).drop ((j + 1) * 65) := by
  rw [List.eraseIdx_eq_take_drop_succ, keptC_append, (kept_take (Nat.le_of_lt hj) hok).1, (kept_take hj hok).2]
set_option maxHeartbeats 4000000 in
theorem dtake_no {S : List Nat} {w0 w : World} {br c : Nat} {r : Res} {A : Option Addr} {L : List Ent} (p : List UInt8) (n : Int) (lp : p.length = 32) (hnw : (Lit.int .i64 n).wf = true) (hno : (p, n) ∉ L.map Ent.key) (hr : ∀ w'', r.ok w'' → SlAt w'' A (keptC L)) (hc : L.length ≤ c) (H : St S w0 [.blk br 41 [.slice A L.length c], r] w) (hG : GoodL L) (hl : L.length ≤ 8)  :
    Calls Try.prog 14 #[vP br 0, .agg (bys p).toArray, vI n] w fun r w' => r = .returned (.tuple #[.agg (bys zKey).toArray, .bool false]) ∧ DocC S w0 br (L) [] w' := by
  have hat : AtR L (p, n) L.length := atR_no hno
  have hkl := keptC_length hG.ok
  have hk1 := keptC_one L
  have lz : zKey.length = 32 := by simp [zKey]
  refine enter (n := 45) (R := fun r L' => r = .returned (.tuple #[.agg (bys zKey).toArray, .bool false]) ∧ ∀ w', St S w0 L' w' → DocC S w0 br (L) [] w') [vP br 0, .agg (bys p).toArray, vI n] Try.func14 rfl rfl rfl H ?_ (fun e w' L' h H => ⟨h.1, h.2 w' H⟩)
  refine VC_seq ?_
  refine VC_region ?_
  refine l_boxA rfl rfl ?_
  intro b4
  refine l_allocA zr23 rfl ?_
  intro b6
  refine vl_v (q_assign rfl) rfl ?_
  refine vl_nil ?_
  refine (th_n ?_)
  refine VC_seq ?_
  refine VC_region ?_
  refine vl_v (q_move rfl) rfl ?_
  first | (refine vl_v (q_loads 1 Try.underlying23 rfl rfl rfl sz23 (by first | omega | with_reducible assumption | (simp only [zb, zu, zw, zi, za]; omega) | (simp only [zs, zr, zm, za, zb, zu, zw, zi, zt, zd, zc, zn, *] <;> first | done | omega) | rfl)) rfl ?_) | (refine vl_v (q_loadsAt 1 Try.underlying23 rfl rfl rfl sz23 (by rfl) (by first | omega | with_reducible assumption | (simp only [zb, zu, zw, zi, za]; omega) | (simp only [zs, zr, zm, za, zb, zu, zw, zi, zt, zd, zc, zn, *] <;> first | done | omega) | rfl)) rfl ?_)
  refine vl_v (q_move rfl) rfl ?_
  refine vl_v (q_callV Try.func17 rfl rfl rfl (fun w1 H1 => at_calls w1 br c L.length 0 A L p n lp hnw (Reads.blk 2 rfl w1 H1) (hr w1 (H1.get (k := 3) rfl)) hG (by omega) hat)) rfl ?_
  refine vl_v (q_assign rfl) rfl ?_
  refine vl_nil ?_
  refine (th_n ?_)
  refine VC_seq ?_
  refine VC_seq ?_
  refine VC_region ?_
  refine vl_v (q_move rfl) rfl ?_
  refine vl_v (q_as (v := .bool true) (q_lss_k (q := 0) Try.underlying3 rfl rfl) (by simp [atI])) rfl ?_
  refine vl_nil ?_
  refine (th_n ?_)
  refine VC_yes (rfl) ?_
  refine VC_seq ?_
  refine VC_region ?_
  refine vl_v (q_build (c' := bys zKey) rfl (by kernel_rfl)) rfl ?_
  refine l_storeA 0 rfl rfl rfl sz23 (by first | omega | with_reducible assumption | (simp only [zb, zu, zw, zi, za]; omega) | (simp only [zs, zr, zm, za, zb, zu, zw, zi, zt, zd, zc, zn, *] <;> first | done | omega) | rfl) (by first | (with_reducible first | exact bys_one _ | exact u32s_one _ | exact u64s_one _ | exact i64s_one _ | exact n64s_one _ | assumption) | exact bys_one _ | exact u32s_one _ | exact u64s_one _ | exact i64s_one _ | exact one_all rfl | (refine app_one ?_ ?_ <;> first | exact bys_one _ | exact one_all rfl | (simp; done))) (by first | omega | with_reducible assumption | (simp only [zb, zu, zw, zi, za]; omega) | (simp only [zs, zr, zm, za, zb, zu, zw, zi, zt, zd, zc, zn, *] <;> first | done | omega) | rfl) ?_
  simp only [List.set_cons_zero, List.set_cons_succ]
  refine vl_v (q_assign rfl) rfl ?_
  refine vl_nil ?_
  refine (th_n ?_)
  refine VC_ret ?_
  refine (th_r ?_)
  refine ⟨_, resC2 0 rfl Try.underlying23 rfl rfl rfl sz23 (by first | omega | with_reducible assumption | (simp only [zb, zu, zw, zi, za]; omega) | (simp only [zs, zr, zm, za, zb, zu, zw, zi, zt, zd, zc, zn, *] <;> first | done | omega) | rfl) rfl, ?_⟩
  exact ⟨rfl, fun w' H' => ⟨A, c, r, hr, hc, St.pick H' (ks := [2, 3]) (by decide) rfl⟩⟩
set_option maxHeartbeats 4000000 in
theorem dtake_yes {S : List Nat} {w0 w : World} {br c : Nat} {r : Res} {A : Option Addr} {L : List Ent} (j : Nat) (e : Ent) (hj : L[j]? = some e) (hr : ∀ w'', r.ok w'' → SlAt w'' A (keptC L)) (hc : L.length ≤ c) (H : St S w0 [.blk br 41 [.slice A L.length c], r] w) (hG : GoodL L) (hl : L.length ≤ 8)  :
    Calls Try.prog 14 #[vP br 0, .agg (bys e.p).toArray, vI e.n] w fun r w' => r = .returned (.tuple #[.agg (bys e.k).toArray, .bool true]) ∧ DocC S w0 br (L.eraseIdx j) [] w' := by
  have hat : AtR L (e.p, e.n) j := atR_yes hG hj
  have he := hG.ok e (List.mem_of_getElem? hj)
  have lp := he.p
  have lk := he.k
  have hnw := he.n
  have hjl := (List.getElem?_eq_some_iff.1 hj).1
  have hI : atI L j = (j : Int) := by simp [atI, hjl]
  have hpt := keptC_part hG.ok hj
  have hp2 := kpart_in hpt (ent_f he).g2 (by omega)
  have lek : (bys e.k).length = 32 := by rw [bys_length]; exact lk
  have hke := kept_erase hjl hG.ok
  have lt1 : ((keptC L).take (j * 65)).length = j * 65 := by rw [List.length_take, keptC_length hG.ok]; omega
  have lt2 : ((keptC L).drop ((j + 1) * 65)).length = (L.length - (j + 1)) * 65 := by rw [List.length_drop, keptC_length hG.ok, Nat.sub_mul]
  have ot1 : ∀ v ∈ (keptC L).take (j * 65), v.oneCell' = true := fun v hv => keptC_one L v (List.mem_of_mem_take hv)
  have ot2 : ∀ v ∈ (keptC L).drop ((j + 1) * 65), v.oneCell' = true := fun v hv => keptC_one L v (List.mem_of_mem_drop hv)
  have hkl := keptC_length hG.ok
  have hk1 := keptC_one L
  have lz : zKey.length = 32 := by simp [zKey]
  refine enter (n := 45) (R := fun r L' => r = .returned (.tuple #[.agg (bys e.k).toArray, .bool true]) ∧ ∀ w', St S w0 L' w' → DocC S w0 br (L.eraseIdx j) [] w') [vP br 0, .agg (bys e.p).toArray, vI e.n] Try.func14 rfl rfl rfl H ?_ (fun e w' L' h H => ⟨h.1, h.2 w' H⟩)
  refine VC_seq ?_
  refine VC_region ?_
  refine l_boxA rfl rfl ?_
  intro b4
  refine l_allocA zr23 rfl ?_
  intro b6
  refine vl_v (q_assign rfl) rfl ?_
  refine vl_nil ?_
  refine (th_n ?_)
  refine VC_seq ?_
  refine VC_region ?_
  refine vl_v (q_move rfl) rfl ?_
  first | (refine vl_v (q_loads 1 Try.underlying23 rfl rfl rfl sz23 (by first | omega | with_reducible assumption | (simp only [zb, zu, zw, zi, za]; omega) | (simp only [zs, zr, zm, za, zb, zu, zw, zi, zt, zd, zc, zn, *] <;> first | done | omega) | rfl)) rfl ?_) | (refine vl_v (q_loadsAt 1 Try.underlying23 rfl rfl rfl sz23 (by rfl) (by first | omega | with_reducible assumption | (simp only [zb, zu, zw, zi, za]; omega) | (simp only [zs, zr, zm, za, zb, zu, zw, zi, zt, zd, zc, zn, *] <;> first | done | omega) | rfl)) rfl ?_)
  refine vl_v (q_move rfl) rfl ?_
  refine vl_v (q_as (v := vN j) (q_callV Try.func17 rfl rfl rfl (fun w1 H1 => at_calls w1 br c j 0 A L e.p e.n lp hnw (Reads.blk 2 rfl w1 H1) (hr w1 (H1.get (k := 3) rfl)) hG (by omega) hat)) (by rw [hI])) rfl ?_
  refine vl_v (q_assign rfl) rfl ?_
  refine vl_nil ?_
  refine (th_n ?_)
  refine VC_seq ?_
  refine VC_seq ?_
  refine VC_region ?_
  refine vl_v (q_move rfl) rfl ?_
  refine vl_v (q_as (v := .bool false) (q_lss_k (q := 0) Try.underlying3 rfl rfl) (by simp)) rfl ?_
  refine vl_nil ?_
  refine (th_n ?_)
  refine VC_no (rfl) ?_
  refine VC_skip ?_
  refine (th_n ?_)
  refine VC_seq ?_
  refine VC_region ?_
  refine vl_v (q_move rfl) rfl ?_
  refine vl_v (q_nilck rfl) rfl ?_
  refine vl_v (q_fldA fo41_0 (by decide) rfl rfl) rfl ?_
  refine vl_v (q_load 2 Try.underlying39 rfl rfl rfl rfl) rfl ?_
  refine vl_v (q_move rfl) rfl ?_
  refine vl_v (q_idxRdN (m := j) Try.underlying39 sz55 rfl rfl hjl (fun w' H' => hr w' (H'.get (k := 3) rfl)) (by rw [hkl]; omega)) rfl ?_
  refine vl_v (q_fldRd fo55_2 (by decide) rfl rfl) rfl ?_
  refine vl_v (q_loadsRd Try.underlying23 rfl sz23 rfl (fun w' H' => hr w' (H'.get (k := 3) rfl)) hp2 lek (by omega)) rfl ?_
  refine l_allocA zr23 rfl ?_
  intro b9
  refine l_storeA 0 rfl rfl rfl sz23 (by first | omega | with_reducible assumption | (simp only [zb, zu, zw, zi, za]; omega) | (simp only [zs, zr, zm, za, zb, zu, zw, zi, zt, zd, zc, zn, *] <;> first | done | omega) | rfl) (by first | (with_reducible first | exact bys_one _ | exact u32s_one _ | exact u64s_one _ | exact i64s_one _ | exact n64s_one _ | assumption) | exact bys_one _ | exact u32s_one _ | exact u64s_one _ | exact i64s_one _ | exact one_all rfl | (refine app_one ?_ ?_ <;> first | exact bys_one _ | exact one_all rfl | (simp; done))) (by first | omega | with_reducible assumption | (simp only [zb, zu, zw, zi, za]; omega) | (simp only [zs, zr, zm, za, zb, zu, zw, zi, zt, zd, zc, zn, *] <;> first | done | omega) | rfl) ?_
  simp only [List.set_cons_zero, List.set_cons_succ]
  refine vl_nil ?_
  refine (th_n ?_)
  refine VC_seq ?_
  refine VC_drawQ 17 5 [[], [], [], [2], [3], [4], [], [5, 6], [1, 7], [], [9], [10], [11], [], [13], [12, 14], [8, 15], [0, 1, 2, 3, 4, 5, 6, 7, 8, 9, 10, 11, 12, 13, 14, 15, 16], [17, 0, 1, 2, 3, 4, 5, 6, 7, 8, 9, 10, 11, 12, 13, 14, 15, 16], [18, 16, 0, 1, 2, 3, 4, 5, 6, 7, 8, 9, 10, 11, 12, 13, 14, 15]] [[], [], [], [2], [2, 3], [2, 3, 4], [], [2, 3, 4, 5, 6], [1, 2, 3, 4, 5, 6, 7], [], [9], [9, 10], [9, 10, 11], [], [13], [9, 10, 11, 12, 13, 14], [1, 2, 3, 4, 5, 6, 7, 8, 9, 10, 11, 12, 13, 14, 15], [0, 1, 2, 3, 4, 5, 6, 7, 8, 9, 10, 11, 12, 13, 14, 15, 16], [0, 1, 2, 3, 4, 5, 6, 7, 8, 9, 10, 11, 12, 13, 14, 15, 16, 17], [0, 1, 2, 3, 4, 5, 6, 7, 8, 9, 10, 11, 12, 13, 14, 15, 16, 17, 18]] [([], [], [], [0, 1, 2, 3, 4], []), ([], [], [], [0, 1, 2, 3, 4], []), ([], [], [], [0, 1, 2, 3, 4], []), ([2], [], [], [0, 1, 2, 3, 4], [2]), ([2, 3], [], [], [0, 1, 2, 3, 4], [2, 3]), ([2, 3, 4], [], [], [0, 1, 2, 3, 4], [2, 3, 4]), ([], [], [], [0, 1, 2, 3, 4], []), ([2, 3, 4, 5, 6], [], [], [0, 1, 2, 3, 4], [2, 3, 4, 5, 6]), ([1, 2, 3, 4, 5, 6, 7], [], [1], [0, 1, 2, 3, 4], [2, 3, 4, 5, 6, 7]), ([], [], [], [0, 1, 2, 3, 4], []), ([9], [], [], [0, 1, 2, 3, 4], [9]), ([9, 10], [], [], [0, 1, 2, 3, 4], [9, 10]), ([9, 10, 11], [], [], [0, 1, 2, 3, 4], [9, 10, 11]), ([], [], [], [0, 1, 2, 3, 4], []), ([13], [], [], [0, 1, 2, 3, 4], [13]), ([9, 10, 11, 12, 13, 14], [], [], [0, 1, 2, 3, 4], [9, 10, 11, 12, 13, 14]), ([1, 2, 3, 4, 5, 6, 7, 8, 9, 10, 11, 12, 13, 14, 15], [], [8], [0, 1, 2, 3, 4], [2, 3, 4, 5, 6, 7, 9, 10, 11, 12, 13, 14, 15])] [0, 1, 2, 3, 4] [0, 2, 3, 4, 5, 6, 7, 9, 10, 11, 12, 13, 14, 15, 16] rfl rfl (by kernel_rfl) ?_
  refine qp_v (fun xs gs hx => q_move rfl) ?_
  refine qp_a (fun xs gs hx => q_litG [] Try.underlying39 in55 (by decide) (by decide) rfl rfl rfl (by intro v hv; cases hv)) ?_
  refine qp_v (fun xs gs hx => q_move rfl) ?_
  refine qp_v (fun xs gs hx => q_nilck rfl) ?_
  refine qp_v (fun xs gs hx => q_fldA fo41_0 (by decide) rfl rfl) ?_
  refine qp_v (fun xs gs hx => q_load 3 Try.underlying39 rfl rfl rfl rfl) ?_
  refine qp_v (fun xs gs hx => q_move rfl) ?_
  refine qp_v (fun xs gs hx => q_slcS0 Try.underlying39 sz55 rfl ⟨_, rfl⟩ rfl (.inl rfl) (by omega) (by omega)) ?_
  refine qp_append Try.underlying39 Try.underlying39 in55 rfl (by decide) (fun xs gs hx => rfl) (fun xs gs hx => rfl) (fun xs gs hx => ⟨_, _, rfl, fun w' H' => (hr w' (H'.get (k := 4) rfl)).take (j * 65)⟩) (fun xs gs hx => by first | omega | with_reducible assumption | (simp only [zb, zu, zw, zi, za]; omega) | (simp only [zs, zr, zm, za, zb, zu, zw, zi, zt, zd, zc, zn, *] <;> first | done | omega) | rfl) (fun xs gs hx => by first | (with_reducible first | exact bys_one _ | exact u32s_one _ | exact u64s_one _ | exact i64s_one _ | exact n64s_one _ | assumption) | exact bys_one _ | exact u32s_one _ | exact u64s_one _ | exact i64s_one _ | exact one_all rfl | (refine app_one ?_ ?_ <;> first | exact bys_one _ | exact one_all rfl | (simp; done))) (by first | omega | with_reducible assumption | (simp only [zb, zu, zw, zi, za]; omega) | (simp only [zs, zr, zm, za, zb, zu, zw, zi, zt, zd, zc, zn, *] <;> first | done | omega) | rfl) (by first | omega | with_reducible assumption | (simp only [zb, zu, zw, zi, za]; omega) | (simp only [zs, zr, zm, za, zb, zu, zw, zi, zt, zd, zc, zn, *] <;> first | done | omega) | rfl) ?_
  refine qp_v (fun xs gs hx => q_move rfl) ?_
  refine qp_v (fun xs gs hx => q_nilck rfl) ?_
  refine qp_v (fun xs gs hx => q_fldA fo41_0 (by decide) rfl rfl) ?_
  refine qp_v (fun xs gs hx => q_load 3 Try.underlying39 rfl rfl rfl rfl) ?_
  refine qp_v (fun xs gs hx => q_move rfl) ?_
  first | (refine qp_v (fun xs gs hx => q_add_n (q := 1) rfl rfl (by omega)) ?_) | (refine qp_v (fun xs gs hx => q_add_i rfl rfl (by omega) (by omega)) ?_)
  refine qp_v (fun xs gs hx => q_slcS Try.underlying39 sz55 rfl ⟨_, rfl⟩ rfl rfl (.inl rfl) (by omega) (by omega) (by omega)) ?_
  refine qp_append Try.underlying39 Try.underlying39 in55 rfl (by decide) (fun xs gs hx => rfl) (fun xs gs hx => rfl) (fun xs gs hx => ⟨_, _, rfl, fun w' H' => (hr w' (H'.get (k := 4) rfl)).dropIf (fun h => by omega)⟩) (fun xs gs hx => by first | omega | with_reducible assumption | (simp only [zb, zu, zw, zi, za]; omega) | (simp only [zs, zr, zm, za, zb, zu, zw, zi, zt, zd, zc, zn, *] <;> first | done | omega) | rfl) (fun xs gs hx => by first | (with_reducible first | exact bys_one _ | exact u32s_one _ | exact u64s_one _ | exact i64s_one _ | exact n64s_one _ | assumption) | exact bys_one _ | exact u32s_one _ | exact u64s_one _ | exact i64s_one _ | exact one_all rfl | (refine app_one ?_ ?_ <;> first | exact bys_one _ | exact one_all rfl | (simp; done))) (by first | omega | with_reducible assumption | (simp only [zb, zu, zw, zi, za]; omega) | (simp only [zs, zr, zm, za, zb, zu, zw, zi, zt, zd, zc, zn, *] <;> first | done | omega) | rfl) (by first | omega | with_reducible assumption | (simp only [zb, zu, zw, zi, za]; omega) | (simp only [zs, zr, zm, za, zb, zu, zw, zi, zt, zd, zc, zn, *] <;> first | done | omega) | rfl) ?_
  refine qp_end ?_
  intro xs gs hx
  obtain ⟨⟨b26, e26⟩, ⟨A33, c33, e33, hc33, hm33⟩, ⟨A41, c41, e41, hc41, hm41⟩, _⟩ := hx
  simp only [selI, ownsA, List.contains_cons, List.contains_nil, Nat.reduceBEq, Nat.reduceAdd, Bool.or_false, Bool.or_true, Bool.false_or, Bool.true_or, mask, nRow, nBlk, nRowT, tupAt_0, tupAt_1, List.append_assoc, List.nil_append, List.append_nil, List.cons_append, List.singleton_append, e26, e33, e41]
  refine VL.keep (Sub.cons (s := 0) rfl (Sub.cons (s := 1) rfl (Sub.cons (s := 2) rfl (Sub.cons (s := 4) rfl (Sub.cons (s := 6) rfl (Sub.cons (s := 7) rfl (Sub.cons (s := 8) rfl (Sub.cons (s := 15) rfl (Sub.cons (s := 9) rfl (Sub.cons (s := 25) rfl (Sub.cons (s := 41) rfl (Sub.nil _)))))))))))) ?_
  refine vl_v (q_nilck rfl) rfl ?_
  refine vl_v (q_fldA fo41_0 (by decide) rfl rfl) rfl ?_
  refine l_store1 3 rfl rfl rfl sz39 rfl (by first | decide | (simp; done) | first | omega | with_reducible assumption | (simp only [zb, zu, zw, zi, za]; omega) | (simp only [zs, zr, zm, za, zb, zu, zw, zi, zt, zd, zc, zn, *] <;> first | done | omega) | rfl) ?_
  simp only [List.set_cons_zero, List.set_cons_succ]
  refine vl_nil ?_
  refine (qn_n (th_n ?_))
  refine VC_seq ?_
  refine VC_region ?_
  first | (refine vl_v (q_loads 0 Try.underlying23 rfl rfl rfl sz23 (by first | omega | with_reducible assumption | (simp only [zb, zu, zw, zi, za]; omega) | (simp only [zs, zr, zm, za, zb, zu, zw, zi, zt, zd, zc, zn, *] <;> first | done | omega) | rfl)) rfl ?_) | (refine vl_v (q_loadsAt 0 Try.underlying23 rfl rfl rfl sz23 (by rfl) (by first | omega | with_reducible assumption | (simp only [zb, zu, zw, zi, za]; omega) | (simp only [zs, zr, zm, za, zb, zu, zw, zi, zt, zd, zc, zn, *] <;> first | done | omega) | rfl)) rfl ?_)
  refine l_storeA 1 rfl rfl rfl sz23 (by first | omega | with_reducible assumption | (simp only [zb, zu, zw, zi, za]; omega) | (simp only [zs, zr, zm, za, zb, zu, zw, zi, zt, zd, zc, zn, *] <;> first | done | omega) | rfl) (by first | (with_reducible first | exact bys_one _ | exact u32s_one _ | exact u64s_one _ | exact i64s_one _ | exact n64s_one _ | assumption) | exact bys_one _ | exact u32s_one _ | exact u64s_one _ | exact i64s_one _ | exact one_all rfl | (refine app_one ?_ ?_ <;> first | exact bys_one _ | exact one_all rfl | (simp; done))) (by first | omega | with_reducible assumption | (simp only [zb, zu, zw, zi, za]; omega) | (simp only [zs, zr, zm, za, zb, zu, zw, zi, zt, zd, zc, zn, *] <;> first | done | omega) | rfl) ?_
  simp only [List.set_cons_zero, List.set_cons_succ]
  refine vl_v (q_assign rfl) rfl ?_
  refine vl_nil ?_
  refine (th_n ?_)
  refine VC_ret ?_
  refine ⟨_, resC2 1 rfl Try.underlying23 rfl rfl rfl sz23 (by first | omega | with_reducible assumption | (simp only [zb, zu, zw, zi, za]; omega) | (simp only [zs, zr, zm, za, zb, zu, zw, zi, zt, zd, zc, zn, *] <;> first | done | omega) | rfl) rfl, ?_⟩
  refine ⟨rfl, fun w' H' => ⟨A41, c41, .row 55 65 (.slice A41 (0 + j + (L.length - (j + 1))) c41) (0 + j + (L.length - (j + 1))) ([].flatten ++ (keptC L).take (j * 65) ++ (keptC L).drop ((j + 1) * 65)), fun w9 h9 => ?_, ?_, ?_⟩⟩
  rotate_right
  · have H2 := St.pick H' (ks := [3, 5]) (by decide) rfl
    rw [show (L.eraseIdx j).length = 0 + j + (L.length - (j + 1)) by rw [List.length_eraseIdx, if_pos hjl]; omega]
    exact H2
  · have h10 := Row.sl h9
    rw [hke]
    exact h10
  · rw [show (L.eraseIdx j).length = 0 + j + (L.length - (j + 1)) by rw [List.length_eraseIdx, if_pos hjl]; omega]
    exact hc41
theorem dtake_calls {S : List Nat} {w0 w : World} {br c : Nat} {r : Res} {A : Option Addr} {L : List Ent} {R : List Res} (p : List UInt8) (n : Int) (lp : p.length = 32) (hnw : (Lit.int .i64 n).wf = true) (hr : ∀ w'', r.ok w'' → SlAt w'' A (keptC L)) (hc : L.length ≤ c) (H : St S w0 ([.blk br 41 [.slice A L.length c], r] ++ R) w) (hG : GoodL L) (hl : L.length ≤ 8) :
    Calls Try.prog 14 #[vP br 0, .agg (bys p).toArray, vI n] w fun r w' => r = .returned (.tuple #[.agg (bys (askR L (p, n)).1).toArray, .bool (askR L (p, n)).2]) ∧ DocC S w0 br (takeR L (p, n)) R w' := by
  by_cases h1 : (p, n) ∈ L.map Ent.key
  · obtain ⟨j, e, hj, he⟩ := key_at h1
    obtain ⟨rfl, rfl⟩ : e.p = p ∧ e.n = n := by simpa [Ent.key] using he
    have h2 := askR_at hG hj
    rw [he] at h2
    have h3 := take_at hG.keys hj
    rw [he] at h3
    rw [h2, h3]
    exact (dtake_yes j e hj hr hc H.own hG hl).mono fun r w' h => ⟨h.1, DocC.swap H h.2⟩
  · rw [askR_no h1, take_no h1]
    exact (dtake_no p n lp hnw h1 hr hc H.own hG hl).mono fun r w' h => ⟨h.1, DocC.swap H h.2⟩
end Go.Proofs.Ytngdppffcdhhlaa
