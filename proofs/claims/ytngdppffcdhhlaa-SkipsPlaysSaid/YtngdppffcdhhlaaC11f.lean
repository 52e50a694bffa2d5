/- The document's store (palfreyref11): where a key stands. No condition. -/
import Derived.Test.YtngdppffcdhhlaaA11b
import Derived.Test.YtngdppffcdhhlaaVF
namespace Go.PBYtngdppffcdhhlaa
open Go Go.RowKit Go.Proofs.Ytngdppffcdhhlaa
set_option linter.unusedVariables false
set_option linter.unusedSimpArgs false

def Ent.cells (e : Ent) : List Value := bys e.p ++ ([.int .i64 e.n] ++ bys e.k)
def keptC (L : List Ent) : List Value := (L.map Ent.cells).flatten
theorem Ent.cells_length {e : Ent} (h : e.ok) : e.cells.length = 65 := by
  simp only [Ent.cells, List.length_append, bys_length, h.p, h.k, List.length_cons, List.length_nil]
theorem Ent.cells_one {e : Ent} : ∀ v ∈ e.cells, v.oneCell' = true := by
  intro v hv
  simp only [Ent.cells, List.mem_append, List.mem_singleton] at hv
  rcases hv with hv | rfl | hv
  · exact bys_one _ v hv
  · rfl
  · exact bys_one _ v hv
structure EntF (cs : List Value) (x : Ent) : Prop where
  g0 : (cs.drop 0).take 32 = bys x.p
  g1 : cs[32]? = some (.int .i64 x.n)
  g2 : (cs.drop 33).take 32 = bys x.k
theorem ent_f {x : Ent} (h : x.ok) : EntF x.cells x := by
  have lp : (bys x.p).length = 32 := by rw [bys_length, h.p]
  have lk : (bys x.k).length = 32 := by rw [bys_length, h.k]
  refine ⟨?_, ?_, ?_⟩
  · show (bys x.p ++ ([Value.int .i64 x.n] ++ bys x.k)).take 32 = _
    rw [List.take_left' lp]
  · show (bys x.p ++ ([Value.int .i64 x.n] ++ bys x.k))[32]? = _
    rw [List.getElem?_append_right (by omega), lp]
    rfl
  · show ((bys x.p ++ ([Value.int .i64 x.n] ++ bys x.k)).drop 33).take 32 = _
    rw [show (33 : Nat) = 32 + 1 from rfl, ← List.drop_drop, List.drop_left' lp]
    show (bys x.k).take 32 = _
    exact List.take_of_length_le (by omega)
section
variable {L : List Ent} {j : Nat} {x : Ent}
theorem ents_all (h : ∀ x ∈ L, x.ok) : ∀ u ∈ L.map Ent.cells, u.length = 65 := by
  intro u hu
  obtain ⟨x, hx, rfl⟩ := List.mem_map.1 hu
  exact Ent.cells_length (h x hx)
theorem keptC_length (h : ∀ x ∈ L, x.ok) : (keptC L).length = L.length * 65 := by
  unfold keptC
  rw [flatten_length _ (ents_all h), List.length_map]
theorem keptC_part (h : ∀ x ∈ L, x.ok) (hj : L[j]? = some x) : ((keptC L).drop (j * 65)).take 65 = x.cells := by
  have hl := (List.getElem?_eq_some_iff.1 hj).1
  have := flatten_part (sz := 65) (L.map Ent.cells) j (ents_all h) (by simpa using hl)
  unfold keptC
  rw [this, List.getD_eq_getElem?_getD, List.getElem?_map, hj]
  rfl
theorem keptC_append (L M : List Ent) : keptC (L ++ M) = keptC L ++ keptC M := by simp [keptC]
theorem keptC_one (L : List Ent) : ∀ v ∈ keptC L, v.oneCell' = true := by
  intro v hv
  obtain ⟨u, hu, hv⟩ := List.mem_flatten.1 hv
  obtain ⟨e, _, rfl⟩ := List.mem_map.1 hu
  exact Ent.cells_one v hv
theorem kpart_in {l c : List Value} {a i m : Nat} {k : List Value} (h : (l.drop a).take 65 = c) (hk : (c.drop i).take m = k) (hm : i + m ≤ 65) : (l.drop (a + i)).take m = k := by
  rw [← h, List.drop_take, List.take_take, List.drop_drop, Nat.min_eq_left (by omega)] at hk
  exact hk
theorem kget_in {l c : List Value} {a i : Nat} {v : Value} (h : (l.drop a).take 65 = c) (hk : c[i]? = some v) (hi : i < 65) : l[a + i]? = some v := by
  rw [← h, List.getElem?_take, if_pos hi, List.getElem?_drop] at hk
  exact hk
end
/-- j is where that key stands, or the number of those that are kept -/
structure AtR (L : List Ent) (z : List UInt8 × Int) (j : Nat) : Prop where
  le : j ≤ L.length
  no : ∀ i x, i < j → L[i]? = some x → x.key ≠ z
  yes : ∀ x, L[j]? = some x → x.key = z
theorem atR_yes {L : List Ent} {j : Nat} {e : Ent} (hG : GoodL L) (hj : L[j]? = some e) : AtR L e.key j := by
  have hl := (List.getElem?_eq_some_iff.1 hj).1
  refine ⟨by omega, fun i x hi hx hk => ?_, fun x hx => by rw [hj] at hx; rw [Option.some.inj hx]⟩
  have hn := hG.keys
  obtain ⟨p1, q1⟩ := List.getElem?_eq_some_iff.1 hx
  obtain ⟨p2, q2⟩ := List.getElem?_eq_some_iff.1 hj
  have h3 := List.pairwise_iff_getElem.1 hn i j (by simpa using p1) (by simpa using p2) hi
  simp only [List.getElem_map, q1, q2] at h3
  exact h3 hk
theorem atR_no {L : List Ent} {z : List UInt8 × Int} (h : z ∉ L.map Ent.key) : AtR L z L.length :=
  ⟨Nat.le_refl _, fun i x _ hx hk => h (List.mem_map.2 ⟨x, List.mem_of_getElem? hx, hk⟩), fun x hx => by rw [List.getElem?_eq_none (Nat.le_refl _)] at hx; cases hx⟩
def atI (L : List Ent) (j : Nat) : Int := if j < L.length then (j : Int) else -1
end Go.PBYtngdppffcdhhlaa
namespace Go.Proofs.Ytngdppffcdhhlaa
open Go Go.RowKit Go.PBYtngdppffcdhhlaa
set_option linter.unusedVariables false
set_option linter.unusedSimpArgs false
set_option maxRecDepth 10000
set_option maxHeartbeats 4000000 in
theorem at_calls (w : World) (br c j n0 : Nat) (A : Option Addr) (L : List Ent) (p : List UInt8) (n : Int) (lp : p.length = 32) (hn : (Lit.int .i64 n).wf = true) (hS : SlAt w (some ⟨br, 0, none⟩) [.slice A L.length c]) (hA : SlAt w A (keptC L)) (hG : GoodL L) (hL : L.length ≤ 100) (hj : AtR L (p, n) j) :
    Calls Try.prog 17 #[vP br 0, .agg (bys p).toArray, vI n] w fun e w' => e = .returned (.int .i64 (atI L j)) ∧ Kept [] w w' := by
  have hjl := hj.le
  refine enter (n := 40) (R := fun e L' => e = .returned (.int .i64 (atI L j))) [vP br 0, .agg (bys p).toArray, vI n] Try.func17 rfl rfl rfl (St.refl w) ?_ (fun e w' L' h H => ⟨h, H.kept⟩)
  refine VC_seq ?_
  refine VC_region ?_
  refine l_boxA rfl rfl ?_
  intro b4
  refine vl_v (q_assign rfl) rfl ?_
  refine vl_nil ?_
  refine (th_n ?_)
  refine VC_seq ?_
  refine VC_seq ?_
  refine VC_region ?_
  refine vl_v (q_assign rfl) rfl ?_
  refine vl_nil ?_
  refine (th_n ?_)
  refine VC_block ?_
  refine VC_loop (ι := Nat) (fun i => i ≤ j) (fun i => [(0, vP br 0), (2, vI n), (4, vP b4 0), (7, vN i)]) (fun i => [.blk b4 23 (bys p)]) (fun i => L.length - i) 0 (by omega) (Sub.cons (s := 0) rfl (Sub.cons (s := 2) rfl (Sub.cons (s := 4) rfl (Sub.cons (s := 7) rfl (Sub.nil _))))) (fun w H => H) ?_
  rintro i hp
  refine VC_seq ?_
  refine VC_seq ?_
  refine VC_region ?_
  refine vl_v (q_move rfl) rfl ?_
  refine vl_v (q_move rfl) rfl ?_
  refine vl_v (q_nilck rfl) rfl ?_
  refine vl_v (q_fldA fo41_0 (by decide) rfl rfl) rfl ?_
  refine vl_v (q_loadR (ad := ⟨br, 0, none⟩) (j := 0) Try.underlying39 rfl rfl (Reads.old hS) rfl) rfl ?_
  refine vl_v (q_lenS Try.underlying39 rfl) rfl ?_
  first | (refine vl_v (q_lss_n Try.underlying3 rfl rfl) rfl ?_) | (refine vl_v (q_lss_k Try.underlying3 rfl rfl) rfl ?_)
  refine vl_nil ?_
  refine (th_n ?_)
  refine VC_cond rfl (fun ht14 => ?_) (fun ht14 => ?_)
  · skip
    have ht14 := of_decide_eq_true ht14
    obtain ⟨x, hx⟩ : ∃ x, L[i]? = some x := ⟨_, List.getElem?_eq_getElem ht14⟩
    have hxo := hG.ok x (List.mem_of_getElem? hx)
    have hkl := keptC_length hG.ok
    have hpt := keptC_part hG.ok hx
    have hxf := ent_f hxo
    have hp0 := kpart_in hpt hxf.g0 (by omega)
    have hp1 := kget_in hpt hxf.g1 (by omega)
    have lxp : (bys x.p).length = 32 := by rw [bys_length]; exact hxo.p
    refine VC_skip ?_
    refine (th_n ?_)
    refine VC_seq ?_
    refine VC_block ?_
    refine VC_seq ?_
    by_cases hr4 : x.p = p
    · skip
      refine VC_drawV 20 [[], [0], [1], [2], [], [3, 4], [5], [6], [], [7, 8], [9], [10], [11, 10], [12, 10], [13, 10], [10], [14, 15, 10], [16, 10], [17, 10], [10], [18, 19, 10], [10, 20]] [[], [0], [0, 1], [0, 1, 2], [], [0, 1, 2, 3, 4], [0, 1, 2, 3, 4, 5], [0, 1, 2, 3, 4, 5, 6], [], [0, 1, 2, 3, 4, 5, 6, 7, 8], [0, 1, 2, 3, 4, 5, 6, 7, 8, 9], [0, 1, 2, 3, 4, 5, 6, 7, 8, 9, 10], [0, 1, 2, 3, 4, 5, 6, 7, 8, 9, 10, 11], [0, 1, 2, 3, 4, 5, 6, 7, 8, 9, 10, 11, 12], [0, 1, 2, 3, 4, 5, 6, 7, 8, 9, 10, 11, 12, 13], [0, 1, 2, 3, 4, 5, 6, 7, 8, 9, 10], [0, 1, 2, 3, 4, 5, 6, 7, 8, 9, 10, 11, 12, 13, 14, 15], [0, 1, 2, 3, 4, 5, 6, 7, 8, 9, 10, 11, 12, 13, 14, 15, 16], [0, 1, 2, 3, 4, 5, 6, 7, 8, 9, 10, 11, 12, 13, 14, 15, 16, 17], [0, 1, 2, 3, 4, 5, 6, 7, 8, 9, 10], [0, 1, 2, 3, 4, 5, 6, 7, 8, 9, 10, 11, 12, 13, 14, 15, 16, 17, 18, 19], [0, 1, 2, 3, 4, 5, 6, 7, 8, 9, 10, 11, 12, 13, 14, 15, 16, 17, 18, 19, 20]] rfl (by kernel_rfl) ?_
      refine qv_v (q_move rfl) ?_
      refine qv_v (q_nilck rfl) ?_
      refine qv_v (q_fldA fo41_0 (by decide) rfl rfl) ?_
      refine qv_v (q_loadR (ad := ⟨br, 0, none⟩) (j := 0) Try.underlying39 rfl rfl (Reads.old hS) rfl) ?_
      refine qv_v (q_move rfl) ?_
      refine qv_v (q_idxRdN (m := i) Try.underlying39 sz55 rfl rfl ht14 (Reads.old hA) (by rw [hkl]; omega)) ?_
      refine qv_v (q_fldRd fo55_0 (by decide) rfl rfl) ?_
      refine qv_v (q_loadsRd Try.underlying23 rfl sz23 rfl (Reads.old hA) hp0 lxp (by omega)) ?_
      first | (refine qv_v (q_loads 0 Try.underlying23 rfl rfl rfl sz23 (by first | omega | with_reducible assumption | (simp only [zb, zu, zw, zi, za]; omega) | (simp only [zs, zr, zm, za, zb, zu, zw, zi, zt, zd, zc, zn, *] <;> first | done | omega) | rfl)) ?_) | (refine qv_v (q_loadsAt 0 Try.underlying23 rfl rfl rfl sz23 (by rfl) (by first | omega | with_reducible assumption | (simp only [zb, zu, zw, zi, za]; omega) | (simp only [zs, zr, zm, za, zb, zu, zw, zi, zt, zd, zc, zn, *] <;> first | done | omega) | rfl)) ?_)
      refine qv_v (q_as (v := .bool true) (q_eqB flatKey rfl rfl (fits_bys' hxo.p) (fits_bys' lp)) (by rw [decide_eq_true hr4])) ?_
      refine qv_v (q_move rfl) ?_
      refine qv_vg (rfl) (q_move rfl) ?_
      refine qv_vg (rfl) (q_nilck rfl) ?_
      refine qv_vg (rfl) (q_fldA fo41_0 (by decide) rfl rfl) ?_
      refine qv_vg (rfl) (q_loadR (ad := ⟨br, 0, none⟩) (j := 0) Try.underlying39 rfl rfl (Reads.old hS) rfl) ?_
      refine qv_vg (rfl) (q_move rfl) ?_
      refine qv_vg (rfl) (q_idxRdN (m := i) Try.underlying39 sz55 rfl rfl ht14 (Reads.old hA) (by rw [hkl]; omega)) ?_
      refine qv_vg (rfl) (q_fldRd fo55_1 (by decide) rfl rfl) ?_
      refine qv_vg (rfl) (q_loadRd Try.underlying3 rfl rfl (Reads.old hA) hp1) ?_
      refine qv_vg (rfl) (q_move rfl) ?_
      refine qv_end ?_
      refine VL.keep (Sub.cons (s := 0) rfl (Sub.cons (s := 2) rfl (Sub.cons (s := 4) rfl (Sub.cons (s := 7) rfl (Sub.cons (s := 14) rfl (Sub.cons (s := 27) rfl (Sub.cons (s := 35) rfl (Sub.cons (s := 36) rfl (Sub.nil _))))))))) ?_
      refine vl_vg rfl (q_eql_k Try.underlying3 rfl rfl) rfl ?_
      first | (refine vl_v (q_pickT rfl rfl) rfl ?_) | (refine vl_v (q_pickF rfl rfl) rfl ?_)
      refine vl_nil ?_
      refine (qn_n (th_n ?_))
      refine VC_cond rfl (fun ht38 => ?_) (fun ht38 => ?_)
      · skip
        have ht38 := of_decide_eq_true ht38
        have hki : x.key = (p, n) := by show (x.p, x.n) = _; rw [hr4, ht38]
        obtain rfl : i = j := by
          by_cases h : i < j
          · exact absurd hki (hj.no i x h hx)
          · omega
        rw [show atI L i = (i : Int) by simp [atI, ht14]]
        refine VC_seq ?_
        refine VC_region ?_
        refine vl_v (q_move rfl) rfl ?_
        refine vl_v (q_assign rfl) rfl ?_
        refine vl_nil ?_
        refine (th_n ?_)
        refine VC_ret ?_
        refine (bl_r (th_r (th_r (bl_r (th_r ?_)))))
        refine ⟨_, res1 rfl rfl, ?_⟩
        exact rfl
      · skip
        have ht38 := of_decide_eq_false ht38
        have hlt : i < j := by
          by_cases h : i < j
          · exact h
          · obtain rfl : i = j := by omega
            exact absurd (congrArg Prod.snd (hj.yes x hx)) ht38
        refine VC_skip ?_
        refine (bl_n (th_n ?_))
        refine VC_region ?_
        refine vl_v (q_move rfl) rfl ?_
        first | (refine vl_v (q_add_n (q := 1) rfl rfl (by omega)) rfl ?_) | (refine vl_v (q_add_i rfl rfl (by omega) (by omega)) rfl ?_)
        refine vl_v (q_assign rfl) rfl ?_
        refine vl_nil ?_
        refine (th_n ?_)
        refine ⟨i + 1, by omega, by omega, (Sub.cons (s := 0) rfl (Sub.cons (s := 2) rfl (Sub.cons (s := 4) rfl (Sub.cons (s := 7) rfl (Sub.nil _))))), fun w H => H⟩
    · skip
      refine VC_drawV 20 [[], [0], [1], [2], [], [3, 4], [5], [6], [], [7, 8], [9], [10], [11, 10], [12, 10], [13, 10], [10], [14, 15, 10], [16, 10], [17, 10], [10], [18, 19, 10], [10, 20]] [[], [0], [0, 1], [0, 1, 2], [], [0, 1, 2, 3, 4], [0, 1, 2, 3, 4, 5], [0, 1, 2, 3, 4, 5, 6], [], [0, 1, 2, 3, 4, 5, 6, 7, 8], [0, 1, 2, 3, 4, 5, 6, 7, 8, 9], [0, 1, 2, 3, 4, 5, 6, 7, 8, 9, 10], [0, 1, 2, 3, 4, 5, 6, 7, 8, 9, 10, 11], [0, 1, 2, 3, 4, 5, 6, 7, 8, 9, 10, 11, 12], [0, 1, 2, 3, 4, 5, 6, 7, 8, 9, 10, 11, 12, 13], [0, 1, 2, 3, 4, 5, 6, 7, 8, 9, 10], [0, 1, 2, 3, 4, 5, 6, 7, 8, 9, 10, 11, 12, 13, 14, 15], [0, 1, 2, 3, 4, 5, 6, 7, 8, 9, 10, 11, 12, 13, 14, 15, 16], [0, 1, 2, 3, 4, 5, 6, 7, 8, 9, 10, 11, 12, 13, 14, 15, 16, 17], [0, 1, 2, 3, 4, 5, 6, 7, 8, 9, 10], [0, 1, 2, 3, 4, 5, 6, 7, 8, 9, 10, 11, 12, 13, 14, 15, 16, 17, 18, 19], [0, 1, 2, 3, 4, 5, 6, 7, 8, 9, 10, 11, 12, 13, 14, 15, 16, 17, 18, 19, 20]] rfl (by kernel_rfl) ?_
      refine qv_v (q_move rfl) ?_
      refine qv_v (q_nilck rfl) ?_
      refine qv_v (q_fldA fo41_0 (by decide) rfl rfl) ?_
      refine qv_v (q_loadR (ad := ⟨br, 0, none⟩) (j := 0) Try.underlying39 rfl rfl (Reads.old hS) rfl) ?_
      refine qv_v (q_move rfl) ?_
      refine qv_v (q_idxRdN (m := i) Try.underlying39 sz55 rfl rfl ht14 (Reads.old hA) (by rw [hkl]; omega)) ?_
      refine qv_v (q_fldRd fo55_0 (by decide) rfl rfl) ?_
      refine qv_v (q_loadsRd Try.underlying23 rfl sz23 rfl (Reads.old hA) hp0 lxp (by omega)) ?_
      first | (refine qv_v (q_loads 0 Try.underlying23 rfl rfl rfl sz23 (by first | omega | with_reducible assumption | (simp only [zb, zu, zw, zi, za]; omega) | (simp only [zs, zr, zm, za, zb, zu, zw, zi, zt, zd, zc, zn, *] <;> first | done | omega) | rfl)) ?_) | (refine qv_v (q_loadsAt 0 Try.underlying23 rfl rfl rfl sz23 (by rfl) (by first | omega | with_reducible assumption | (simp only [zb, zu, zw, zi, za]; omega) | (simp only [zs, zr, zm, za, zb, zu, zw, zi, zt, zd, zc, zn, *] <;> first | done | omega) | rfl)) ?_)
      refine qv_v (q_as (v := .bool false) (q_eqB flatKey rfl rfl (fits_bys' hxo.p) (fits_bys' lp)) (by rw [decide_eq_false hr4])) ?_
      refine qv_v (q_move rfl) ?_
      refine qv_skip rfl ?_
      refine qv_skip rfl ?_
      refine qv_skip rfl ?_
      refine qv_skip rfl ?_
      refine qv_skip rfl ?_
      refine qv_skip rfl ?_
      refine qv_skip rfl ?_
      refine qv_skip rfl ?_
      refine qv_skip rfl ?_
      refine qv_end ?_
      refine VL.keep (Sub.cons (s := 0) rfl (Sub.cons (s := 2) rfl (Sub.cons (s := 4) rfl (Sub.cons (s := 7) rfl (Sub.cons (s := 14) rfl (Sub.cons (s := 27) rfl (Sub.cons (s := 35) rfl (Sub.cons (s := 36) rfl (Sub.nil _))))))))) ?_
      refine vl_skip rfl rfl ?_
      first | (refine vl_v (q_pickT rfl rfl) rfl ?_) | (refine vl_v (q_pickF rfl rfl) rfl ?_)
      refine vl_nil ?_
      refine (qn_n (th_n ?_))
      refine VC_no (rfl) ?_
      refine VC_skip ?_
      refine (bl_n (th_n ?_))
      refine VC_region ?_
      have hlt : i < j := by
        by_cases h : i < j
        · exact h
        · obtain rfl : i = j := by omega
          exact absurd (congrArg Prod.fst (hj.yes x hx)) hr4
      refine vl_v (q_move rfl) rfl ?_
      first | (refine vl_v (q_add_n (q := 1) rfl rfl (by omega)) rfl ?_) | (refine vl_v (q_add_i rfl rfl (by omega) (by omega)) rfl ?_)
      refine vl_v (q_assign rfl) rfl ?_
      refine vl_nil ?_
      refine (th_n ?_)
      refine ⟨i + 1, by omega, by omega, (Sub.cons (s := 0) rfl (Sub.cons (s := 2) rfl (Sub.cons (s := 4) rfl (Sub.cons (s := 7) rfl (Sub.nil _))))), fun w H => H⟩
  · skip
    have ht14 := of_decide_eq_false ht14
    obtain rfl : i = L.length := by omega
    obtain rfl : j = L.length := by omega
    rw [show atI L L.length = -1 by simp [atI]]
    refine VC_exit ?_
    refine (th_x (th_x (bl_xs (th_n ?_))))
    refine VC_seq ?_
    refine VC_region ?_
    refine vl_v (q_assign rfl) rfl ?_
    refine vl_nil ?_
    refine (th_n ?_)
    refine VC_ret ?_
    refine ⟨_, res1 rfl rfl, ?_⟩
    exact rfl
end Go.Proofs.Ytngdppffcdhhlaa
