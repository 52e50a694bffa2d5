/- What the document's functions of chapter 12 do: the head of any bytes. Conditions: lengths that memory bears. -/
import Derived.Test.YtpjjledbmfmbiaaC12e
namespace Go.Proofs.Ytpjjledbmfmbiaa
open Go.RowKit Go.PBYtpjjledbmfmbiaa
set_option linter.unusedVariables false
set_option linter.unusedSimpArgs false
set_option maxRecDepth 10000

/-- thirty-two bytes, the first so many of them copied -/
def cpK (b : List UInt8) : Nat → List UInt8
  | 0 => List.replicate 32 0
  | i + 1 => (cpK b i).set i (b.getD i 0)
theorem cpK_length (b : List UInt8) : ∀ i, (cpK b i).length = 32
  | 0 => by simp [cpK]
  | i + 1 => by rw [cpK, List.length_set, cpK_length b i]
theorem cpK_get (b : List UInt8) : ∀ i j, i ≤ 32 → j < 32 → (cpK b i).getD j 0 = if j < i then b.getD j 0 else 0
  | 0, j, _, hj => by
    rw [if_neg (by omega), cpK, List.getD_eq_getElem?_getD, List.getElem?_replicate]
    split <;> rfl
  | i + 1, j, hi, hj => by
    have hl := cpK_length b i
    have ih := cpK_get b i j (by omega) hj
    rw [cpK]
    by_cases h : i = j
    · subst h
      rw [if_pos (by omega)]
      simp [hl, show i < 32 by omega]
    · rw [List.getD_eq_getElem?_getD, List.getElem?_set_ne h, ← List.getD_eq_getElem?_getD, ih]
      by_cases h2 : j < i
      · rw [if_pos h2, if_pos (by omega)]
      · rw [if_neg h2, if_neg (by omega)]
theorem cpK_all {b : List UInt8} (h : 32 ≤ b.length) : cpK b 32 = b.take 32 := by
  have hl := cpK_length b 32
  apply List.ext_getElem
  · rw [hl, List.length_take]; omega
  · intro j h1 h2
    have h3 := cpK_get b 32 j (by omega) (by omega)
    rw [if_pos (by omega)] at h3
    rw [List.getElem_take]
    simp only [List.getD_eq_getElem?_getD] at h3
    rw [List.getElem?_eq_getElem h1, List.getElem?_eq_getElem (by omega)] at h3
    exact h3
theorem rkey12_calls (s : List UInt8) (A : Option Addr) (m c : Nat) (hm : m = s.length) (h32 : 32 ≤ m) (w : World) (hA : SlAt w A (bys s)) :
    Calls Try.prog 34 #[.slice A m c] w fun e w' => e = .returned (.agg (bys (s.take 32)).toArray) ∧ Kept [] w w' := by
  refine enter (n := 16) (R := fun e L => e = .returned (.agg (bys (s.take 32)).toArray)) [.slice A m c] Try.func34 rfl rfl rfl (St.refl w) ?_ (fun e w' L' h H => ⟨h, H.kept⟩)
  refine VC_seq ?_
  refine VC_region ?_
  refine l_allocA zr23 rfl ?_
  intro b2
  refine vl_nil ?_
  refine (th_n ?_)
  refine VC_seq ?_
  refine VC_region ?_
  refine l_allocA zr23 rfl ?_
  intro b3
  refine vl_nil ?_
  refine (th_n ?_)
  refine VC_seq ?_
  refine VC_seq ?_
  refine VC_region ?_
  refine vl_v (q_assign rfl) rfl ?_
  refine vl_nil ?_
  refine (th_n ?_)
  refine VC_block ?_
  refine VC_loop (ι := Nat) (fun i => i ≤ 32) (fun i => [(0, .slice A m c), (2, vP b2 0), (3, vP b3 0), (4, vN i)]) (fun i => [.blk b3 23 (bys (cpK s i)), .blk b2 23 (bys (List.replicate 32 0))]) (fun i => 32 - i) 0 (by omega) (Sub.cons (s := 0) rfl (Sub.cons (s := 2) rfl (Sub.cons (s := 3) rfl (Sub.cons (s := 4) rfl (Sub.nil _))))) (fun w H => H) ?_
  rintro i hp
  have hcl := cpK_length s i
  refine VC_seq ?_
  refine VC_seq ?_
  refine VC_region ?_
  refine vl_v (q_move rfl) rfl ?_
  first | (refine vl_v (q_lss_n (q := 32) Try.underlying3 rfl rfl) rfl ?_) | (refine vl_v (q_lss_k Try.underlying3 rfl rfl) rfl ?_)
  refine vl_nil ?_
  refine (th_n ?_)
  refine VC_cond rfl (fun ht6 => ?_) (fun ht6 => ?_)
  · skip
    have ht6 := of_decide_eq_true ht6
    refine VC_skip ?_
    refine (th_n ?_)
    refine VC_seq ?_
    refine VC_block ?_
    have ht6 : i < 32 := ht6
    refine VC_region ?_
    refine vl_v (q_move rfl) rfl ?_
    refine vl_v (q_move rfl) rfl ?_
    refine vl_v (q_move rfl) rfl ?_
    refine vl_v (q_idxRd (m := i) Try.underlying26 sz5 rfl rfl (by omega) (Reads.old hA) (by rw [bys_length]; omega)) rfl ?_
    refine vl_v (q_loadRd Try.underlying5 rfl rfl (Reads.old hA) (bys_at (by omega))) rfl ?_
    first | (refine vl_v (q_idxA Try.underlying23 sz5 rfl rfl (by omega) (r := _) (by rw [Nat.mul_one, Nat.zero_add])) rfl ?_) | (refine vl_v (q_idxA Try.underlying23 sz5 rfl rfl (by omega) rfl) rfl ?_)
    first | (refine l_stB 0 rfl rfl rfl sz5 (by first | omega | with_reducible assumption | (simp only [zb, zu, zw, zi, za]; omega) | (simp only [zs, zr, zm, za, zb, zu, zw, zi, zt, zd, zc, zn, *] <;> first | done | omega) | rfl) ?_) | (refine l_store1 0 rfl rfl rfl sz5 rfl (by first | decide | (simp; done) | first | omega | with_reducible assumption | (simp only [zb, zu, zw, zi, za]; omega) | (simp only [zs, zr, zm, za, zb, zu, zw, zi, zt, zd, zc, zn, *] <;> first | done | omega) | rfl) ?_)
    simp only [List.set_cons_zero, List.set_cons_succ]
    refine vl_nil ?_
    refine (bl_n (th_n ?_))
    refine VC_region ?_
    refine vl_v (q_move rfl) rfl ?_
    first | (refine vl_v (q_add_n (q := 1) rfl rfl (by omega)) rfl ?_) | (refine vl_v (q_add_i rfl rfl (by omega) (by omega)) rfl ?_)
    refine vl_v (q_assign rfl) rfl ?_
    refine vl_nil ?_
    refine (th_n ?_)
    refine ⟨i + 1, by omega, by omega, (Sub.cons (s := 0) rfl (Sub.cons (s := 2) rfl (Sub.cons (s := 3) rfl (Sub.cons (s := 4) rfl (Sub.nil _))))), fun w H => H⟩
  · skip
    have ht6 := of_decide_eq_false ht6
    obtain rfl : i = 32 := by omega
    rw [show cpK s 32 = s.take 32 from cpK_all (by omega)]
    have hl32 : (s.take 32).length = 32 := by rw [List.length_take]; omega
    refine VC_exit ?_
    refine (th_x (th_x (bl_xs (th_n ?_))))
    refine VC_seq ?_
    refine VC_region ?_
    first | (refine vl_v (q_loads 0 Try.underlying23 rfl rfl rfl sz23 (by first | omega | with_reducible assumption | (simp only [zb, zu, zw, zi, za]; omega) | (simp only [zs, zr, zm, za, zb, zu, zw, zi, zt, zd, zc, zn, *] <;> first | done | omega) | rfl)) rfl ?_) | (refine vl_v (q_loadsAt 0 Try.underlying23 rfl rfl rfl sz23 (by rfl) (by first | omega | with_reducible assumption | (simp only [zb, zu, zw, zi, za]; omega) | (simp only [zs, zr, zm, za, zb, zu, zw, zi, zt, zd, zc, zn, *] <;> first | done | omega) | rfl)) rfl ?_)
    refine l_storeA 1 rfl rfl rfl sz23 (by first | omega | with_reducible assumption | (simp only [zb, zu, zw, zi, za]; omega) | (simp only [zs, zr, zm, za, zb, zu, zw, zi, zt, zd, zc, zn, *] <;> first | done | omega) | rfl) (by first | (with_reducible first | exact bys_one _ | exact u32s_one _ | exact u64s_one _ | exact i64s_one _ | exact n64s_one _ | assumption) | exact bys_one _ | exact u32s_one _ | exact u64s_one _ | exact i64s_one _ | exact one_all rfl | (refine app_one ?_ ?_ <;> first | exact bys_one _ | exact one_all rfl | (simp; done))) (by first | omega | with_reducible assumption | (simp only [zb, zu, zw, zi, za]; omega) | (simp only [zs, zr, zm, za, zb, zu, zw, zi, zt, zd, zc, zn, *] <;> first | done | omega) | rfl) ?_
    simp only [List.set_cons_zero, List.set_cons_succ]
    refine vl_nil ?_
    refine (th_n ?_)
    refine VC_ret ?_
    refine ⟨_, resC1 1 rfl Try.underlying23 rfl rfl rfl sz23 (by first | omega | with_reducible assumption | (simp only [zb, zu, zw, zi, za]; omega) | (simp only [zs, zr, zm, za, zb, zu, zw, zi, zt, zd, zc, zn, *] <;> first | done | omega) | rfl), ?_⟩
    exact rfl
theorem rof_calls (l p : List UInt8) (A : Option Addr) (m c x y : Nat) (hm : m = l.length) (hc : m ≤ c) (hb : m ≤ 1000000) (hn : 40 ≤ m) (hp : rdP l = p) (hx : rdM l = x) (hy : rdN l = y) (w : World) (hA : SlAt w A (bys l)) :
    Calls Try.prog 26 #[.slice A m c] w fun e w' => e = .returned (.agg (headC p x y).toArray) ∧ Kept [] w w' := by
  have hl : p.length = 32 := by rw [← hp, rdP]; simp; omega
  have hl1 : (headC p x y).length = 34 := headC_length hl _ _
  have o1 : ∀ u ∈ headC p x y, u.oneCell' = true := app_one (bys_one _) (one_all rfl)
  have A1 := at_take (n := 4) (adv_at (n := 32) hA hm hc)
  have A2 := at_take (n := 4) (adv_at (n := 36) hA hm hc)
  have l1 : ((l.drop 32).take 4).length = 36 - 32 := by simp; omega
  have l2 : ((l.drop 36).take 4).length = 40 - 36 := by simp; omega
  have e1 : ofHigh (((l.drop 32).take 4).take 8) = x := by rw [List.take_of_length_le (by omega)]; exact hx
  have e2 : ofHigh (((l.drop 36).take 4).take 8) = y := by rw [List.take_of_length_le (by omega)]; exact hy
  have b1 := rdM_lt l
  have b2 := rdN_lt l
  rw [hx] at b1
  rw [hy] at b2
  refine enter (n := 14) (R := fun e L => e = .returned (.agg (headC p x y).toArray)) [.slice A m c] Try.func26 rfl rfl rfl (St.refl w) ?_ (fun e w' L' h H => ⟨h, H.kept⟩)
  refine VC_seq ?_
  refine VC_region ?_
  refine l_allocA zr25 rfl ?_
  intro b2
  refine vl_nil ?_
  refine (th_n ?_)
  refine VC_seq ?_
  refine VC_drawV 10 [[], [0], [], [2], [3, 1], [4], [], [6], [7, 4], [8], [1, 5, 9], [10, 8, 0, 1, 2, 3, 4, 5, 6, 7, 9]] [[], [0], [], [2], [0, 1, 2, 3], [0, 1, 2, 3, 4], [], [6], [0, 1, 2, 3, 4, 6, 7], [0, 1, 2, 3, 4, 6, 7, 8], [0, 1, 2, 3, 4, 5, 6, 7, 8, 9], [0, 1, 2, 3, 4, 5, 6, 7, 8, 9, 10]] rfl (by kernel_rfl) ?_
  refine qv_v (q_move rfl) ?_
  refine qv_v (q_callV Try.func34 rfl rfl rfl (fun w1 H1 => (show l.take 32 = p from hp) ▸ rkey12_calls l A m c hm (by omega) w1 (Reads.old hA w1 H1))) ?_
  refine qv_v (q_move rfl) ?_
  refine qv_v (q_slcS (l := 32) (h := 36) Try.underlying26 sz5 rfl ⟨_, rfl⟩ ⟨_, rfl⟩ rfl (.inl rfl) (by omega) (by omega) (by omega)) ?_
  refine qv_v (q_callV Try.func33 rfl rfl rfl (fun w1 H1 => e1 ▸ l1 ▸ rofHigh_calls ((l.drop 32).take 4) (adv A 32 c 1) (c - 32) w1 (Reads.old A1 w1 H1) (by omega) (by omega))) ?_
  refine qv_v (q_conv_nn Try.underlying45 Try.underlying3 rfl (by omega)) ?_
  refine qv_v (q_move rfl) ?_
  refine qv_v (q_slcS (l := 36) (h := 40) Try.underlying26 sz5 rfl ⟨_, rfl⟩ ⟨_, rfl⟩ rfl (.inl rfl) (by omega) (by omega) (by omega)) ?_
  refine qv_v (q_callV Try.func33 rfl rfl rfl (fun w1 H1 => e2 ▸ l2 ▸ rofHigh_calls ((l.drop 36).take 4) (adv A 36 c 1) (c - 36) w1 (Reads.old A2 w1 H1) (by omega) (by omega))) ?_
  refine qv_v (q_conv_nn Try.underlying45 Try.underlying3 rfl (by omega)) ?_
  refine qv_end ?_
  refine VL.keep (Sub.cons (s := 0) rfl (Sub.cons (s := 2) rfl (Sub.cons (s := 4) rfl (Sub.cons (s := 8) rfl (Sub.cons (s := 12) rfl (Sub.nil _)))))) ?_
  refine vl_v (q_buildS (tot := 34) (sizes := [32, 1, 1]) (c' := headC p x y) (by kernel_rfl) rfl rfl rfl rfl (by simp only [List.map_cons, List.map_nil, cellsL, Value.cells, bys_length, hl]; rfl) (by simp only [flatV, cellsL, Value.cells, List.map_cons, List.map_nil, List.flatten_cons, List.flatten_nil, List.append_nil, headC]; rfl)) rfl ?_
  refine l_storeA 0 rfl rfl rfl sz25 (by first | assumption | omega | (rw [zHeadC_eq]; exact zHeadC_length)) (by first | (with_reducible first | exact bys_one _ | exact u32s_one _ | exact u64s_one _ | exact i64s_one _ | exact n64s_one _ | assumption) | exact bys_one _ | exact u32s_one _ | exact u64s_one _ | exact i64s_one _ | exact one_all rfl | (refine app_one ?_ ?_ <;> first | exact bys_one _ | exact one_all rfl | (simp; done))) (by first | assumption | omega | (rw [zHeadC_eq]; exact zHeadC_length)) ?_
  simp only [List.set_cons_zero, List.set_cons_succ]
  refine vl_nil ?_
  refine (qn_n (th_n ?_))
  refine VC_ret ?_
  refine ⟨_, resC1 0 rfl Try.underlying25 rfl rfl rfl sz25 (by first | assumption | omega | (rw [zHeadC_eq]; exact zHeadC_length)), ?_⟩
  exact rfl
theorem rread_short (l p : List UInt8) (A : Option Addr) (m c x y : Nat) (hm : m = l.length) (hc : m ≤ c) (hb : m ≤ 1000000) (hn : m < 40) (hp : rdP l = p) (hx : rdM l = x) (hy : rdN l = y) (w : World) (hA : SlAt w A (bys l)) :
    Calls Try.prog 12 #[.slice A m c] w fun e w' => e = .returned (.tuple #[.agg (zHeadC).toArray, vN 3]) ∧ Kept [] w w' := by
  have hz := zHeadC_length
  have hzo := zHeadC_one
  refine enter (n := 21) (R := fun e L => e = .returned (.tuple #[.agg (zHeadC).toArray, vN 3])) [.slice A m c] Try.func12 rfl rfl rfl (St.refl w) ?_ (fun e w' L' h H => ⟨h, H.kept⟩)
  refine VC_seq ?_
  refine VC_region ?_
  refine l_allocA zr25 rfl ?_
  intro b2
  refine vl_v (q_assign rfl) rfl ?_
  refine vl_nil ?_
  refine (th_n ?_)
  refine VC_seq ?_
  refine VC_seq ?_
  refine VC_region ?_
  refine vl_v (q_move rfl) rfl ?_
  refine vl_v (q_lenS Try.underlying26 rfl) rfl ?_
  first | (refine vl_v (q_lss_n (q := 40) Try.underlying3 rfl rfl) rfl ?_) | (refine vl_v (q_lss_k Try.underlying3 rfl rfl) rfl ?_)
  refine vl_nil ?_
  refine (th_n ?_)
  refine VC_cond rfl (fun ht7 => ?_) (fun ht7 => ?_)
  · skip
    have ht7 := of_decide_eq_true ht7
    refine VC_seq ?_
    refine VC_region ?_
    refine vl_v (q_build (c' := zHeadC) rfl (by kernel_rfl)) rfl ?_
    refine l_storeA 0 rfl rfl rfl sz25 (by first | assumption | omega | (rw [zHeadC_eq]; assumption)) (by first | (with_reducible first | exact bys_one _ | exact u32s_one _ | exact u64s_one _ | exact i64s_one _ | exact n64s_one _ | assumption) | exact bys_one _ | exact u32s_one _ | exact u64s_one _ | exact i64s_one _ | exact one_all rfl | (refine app_one ?_ ?_ <;> first | exact bys_one _ | exact one_all rfl | (simp; done))) (by first | assumption | omega | (rw [zHeadC_eq]; assumption)) ?_
    simp only [List.set_cons_zero, List.set_cons_succ]
    refine vl_v (q_assign rfl) rfl ?_
    refine vl_nil ?_
    refine (th_n ?_)
    refine VC_ret ?_
    refine (th_r ?_)
    refine ⟨_, resC2 0 rfl Try.underlying25 rfl rfl rfl sz25 (by first | assumption | omega | (rw [zHeadC_eq]; assumption)) rfl, ?_⟩
    exact rfl
  · skip
    exfalso; have ht7 := of_decide_eq_false ht7; omega
theorem rread_ok (l p : List UInt8) (A : Option Addr) (m c x y : Nat) (hm : m = l.length) (hc : m ≤ c) (hb : m ≤ 1000000) (hn : m = 40) (hr : rightB x y = true) (hp : rdP l = p) (hx : rdM l = x) (hy : rdN l = y) (w : World) (hA : SlAt w A (bys l)) :
    Calls Try.prog 12 #[.slice A m c] w fun e w' => e = .returned (.tuple #[.agg (headC p x y).toArray, vN 0]) ∧ Kept [] w w' := by
  have hz := zHeadC_length
  have hzo := zHeadC_one
  have hl : p.length = 32 := by rw [← hp, rdP]; simp; omega
  have hl1 : (headC p x y).length = 34 := headC_length hl _ _
  have o1 : ∀ u ∈ headC p x y, u.oneCell' = true := app_one (bys_one _) (one_all rfl)
  refine enter (n := 21) (R := fun e L => e = .returned (.tuple #[.agg (headC p x y).toArray, vN 0])) [.slice A m c] Try.func12 rfl rfl rfl (St.refl w) ?_ (fun e w' L' h H => ⟨h, H.kept⟩)
  refine VC_seq ?_
  refine VC_region ?_
  refine l_allocA zr25 rfl ?_
  intro b2
  refine vl_v (q_assign rfl) rfl ?_
  refine vl_nil ?_
  refine (th_n ?_)
  refine VC_seq ?_
  refine VC_seq ?_
  refine VC_region ?_
  refine vl_v (q_move rfl) rfl ?_
  refine vl_v (q_lenS Try.underlying26 rfl) rfl ?_
  first | (refine vl_v (q_lss_n (q := 40) Try.underlying3 rfl rfl) rfl ?_) | (refine vl_v (q_lss_k Try.underlying3 rfl rfl) rfl ?_)
  refine vl_nil ?_
  refine (th_n ?_)
  refine VC_cond rfl (fun ht7 => ?_) (fun ht7 => ?_)
  · skip
    exfalso; have ht7 := of_decide_eq_true ht7; omega
  · skip
    have ht7 := of_decide_eq_false ht7
    refine VC_skip ?_
    refine (th_n ?_)
    refine VC_seq ?_
    refine VC_region ?_
    refine vl_v (q_move rfl) rfl ?_
    refine vl_v (q_callV Try.func26 rfl rfl rfl (fun w1 H1 => rof_calls l p A m c x y hm hc hb (by omega) hp hx hy w1 (Reads.old hA w1 H1))) rfl ?_
    refine l_allocA zr25 rfl ?_
    intro b4
    refine l_storeA 0 rfl rfl rfl sz25 (by first | assumption | omega | (rw [zHeadC_eq]; assumption)) (by first | (with_reducible first | exact bys_one _ | exact u32s_one _ | exact u64s_one _ | exact i64s_one _ | exact n64s_one _ | assumption) | exact bys_one _ | exact u32s_one _ | exact u64s_one _ | exact i64s_one _ | exact one_all rfl | (refine app_one ?_ ?_ <;> first | exact bys_one _ | exact one_all rfl | (simp; done))) (by first | assumption | omega | (rw [zHeadC_eq]; assumption)) ?_
    simp only [List.set_cons_zero, List.set_cons_succ]
    refine vl_nil ?_
    refine (th_n ?_)
    refine VC_seq ?_
    refine VC_seq ?_
    refine VC_region ?_
    refine vl_v (q_move rfl) rfl ?_
    refine vl_v (q_lenS Try.underlying26 rfl) rfl ?_
    refine vl_v (q_as (v := .bool false) (q_gtr_n (q := 40) Try.underlying3 rfl rfl) (congrArg Value.bool (decide_eq_false (by omega)))) rfl ?_
    refine vl_v (q_move rfl) rfl ?_
    first | (refine vl_vg rfl (q_loads 0 Try.underlying25 rfl rfl rfl sz25 (by first | assumption | omega | (rw [zHeadC_eq]; assumption))) rfl ?_) | (refine vl_vg rfl (q_loadsAt 0 Try.underlying25 rfl rfl rfl sz25 (by rfl) (by first | assumption | omega | (rw [zHeadC_eq]; assumption))) rfl ?_)
    refine vl_vg rfl (q_as (v := .bool true) (q_callV Try.func20 rfl rfl rfl (fun w1 H1 => rright_calls p x y hl w1)) (by rw [hr])) rfl ?_
    refine vl_vg rfl (q_not rfl) rfl ?_
    first | (refine vl_v (q_pickT rfl rfl) rfl ?_) | (refine vl_v (q_pickF rfl rfl) rfl ?_)
    refine vl_nil ?_
    refine (th_n ?_)
    refine VC_no (rfl) ?_
    refine VC_skip ?_
    refine (th_n ?_)
    refine VC_seq ?_
    refine VC_region ?_
    first | (refine vl_v (q_loads 0 Try.underlying25 rfl rfl rfl sz25 (by first | assumption | omega | (rw [zHeadC_eq]; assumption))) rfl ?_) | (refine vl_v (q_loadsAt 0 Try.underlying25 rfl rfl rfl sz25 (by rfl) (by first | assumption | omega | (rw [zHeadC_eq]; assumption))) rfl ?_)
    refine l_storeA 1 rfl rfl rfl sz25 (by first | assumption | omega | (rw [zHeadC_eq]; assumption)) (by first | (with_reducible first | exact bys_one _ | exact u32s_one _ | exact u64s_one _ | exact i64s_one _ | exact n64s_one _ | assumption) | exact bys_one _ | exact u32s_one _ | exact u64s_one _ | exact i64s_one _ | exact one_all rfl | (refine app_one ?_ ?_ <;> first | exact bys_one _ | exact one_all rfl | (simp; done))) (by first | assumption | omega | (rw [zHeadC_eq]; assumption)) ?_
    simp only [List.set_cons_zero, List.set_cons_succ]
    refine vl_v (q_assign rfl) rfl ?_
    refine vl_nil ?_
    refine (th_n ?_)
    refine VC_ret ?_
    refine ⟨_, resC2 1 rfl Try.underlying25 rfl rfl rfl sz25 (by first | assumption | omega | (rw [zHeadC_eq]; assumption)) rfl, ?_⟩
    exact rfl
theorem rread_long (l p : List UInt8) (A : Option Addr) (m c x y : Nat) (hm : m = l.length) (hc : m ≤ c) (hb : m ≤ 1000000) (hn : 40 < m) (hp : rdP l = p) (hx : rdM l = x) (hy : rdN l = y) (w : World) (hA : SlAt w A (bys l)) :
    Calls Try.prog 12 #[.slice A m c] w fun e w' => e = .returned (.tuple #[.agg (zHeadC).toArray, vN 2]) ∧ Kept [] w w' := by
  have hz := zHeadC_length
  have hzo := zHeadC_one
  have hl : p.length = 32 := by rw [← hp, rdP]; simp; omega
  have hl1 : (headC p x y).length = 34 := headC_length hl _ _
  have o1 : ∀ u ∈ headC p x y, u.oneCell' = true := app_one (bys_one _) (one_all rfl)
  refine enter (n := 21) (R := fun e L => e = .returned (.tuple #[.agg (zHeadC).toArray, vN 2])) [.slice A m c] Try.func12 rfl rfl rfl (St.refl w) ?_ (fun e w' L' h H => ⟨h, H.kept⟩)
  refine VC_seq ?_
  refine VC_region ?_
  refine l_allocA zr25 rfl ?_
  intro b2
  refine vl_v (q_assign rfl) rfl ?_
  refine vl_nil ?_
  refine (th_n ?_)
  refine VC_seq ?_
  refine VC_seq ?_
  refine VC_region ?_
  refine vl_v (q_move rfl) rfl ?_
  refine vl_v (q_lenS Try.underlying26 rfl) rfl ?_
  first | (refine vl_v (q_lss_n (q := 40) Try.underlying3 rfl rfl) rfl ?_) | (refine vl_v (q_lss_k Try.underlying3 rfl rfl) rfl ?_)
  refine vl_nil ?_
  refine (th_n ?_)
  refine VC_cond rfl (fun ht7 => ?_) (fun ht7 => ?_)
  · skip
    exfalso; have ht7 := of_decide_eq_true ht7; omega
  · skip
    have ht7 := of_decide_eq_false ht7
    refine VC_skip ?_
    refine (th_n ?_)
    refine VC_seq ?_
    refine VC_region ?_
    refine vl_v (q_move rfl) rfl ?_
    refine vl_v (q_callV Try.func26 rfl rfl rfl (fun w1 H1 => rof_calls l p A m c x y hm hc hb (by omega) hp hx hy w1 (Reads.old hA w1 H1))) rfl ?_
    refine l_allocA zr25 rfl ?_
    intro b4
    refine l_storeA 0 rfl rfl rfl sz25 (by first | assumption | omega | (rw [zHeadC_eq]; assumption)) (by first | (with_reducible first | exact bys_one _ | exact u32s_one _ | exact u64s_one _ | exact i64s_one _ | exact n64s_one _ | assumption) | exact bys_one _ | exact u32s_one _ | exact u64s_one _ | exact i64s_one _ | exact one_all rfl | (refine app_one ?_ ?_ <;> first | exact bys_one _ | exact one_all rfl | (simp; done))) (by first | assumption | omega | (rw [zHeadC_eq]; assumption)) ?_
    simp only [List.set_cons_zero, List.set_cons_succ]
    refine vl_nil ?_
    refine (th_n ?_)
    refine VC_seq ?_
    refine VC_seq ?_
    refine VC_region ?_
    refine vl_v (q_move rfl) rfl ?_
    refine vl_v (q_lenS Try.underlying26 rfl) rfl ?_
    refine vl_v (q_as (v := .bool true) (q_gtr_n (q := 40) Try.underlying3 rfl rfl) (congrArg Value.bool (decide_eq_true (by omega)))) rfl ?_
    refine vl_v (q_move rfl) rfl ?_
    refine vl_skip rfl rfl ?_
    refine vl_skip rfl rfl ?_
    refine vl_skip rfl rfl ?_
    first | (refine vl_v (q_pickT rfl rfl) rfl ?_) | (refine vl_v (q_pickF rfl rfl) rfl ?_)
    refine vl_nil ?_
    refine (th_n ?_)
    refine VC_yes (rfl) ?_
    refine VC_seq ?_
    refine VC_region ?_
    refine vl_v (q_build (c' := zHeadC) rfl (by kernel_rfl)) rfl ?_
    refine l_storeA 1 rfl rfl rfl sz25 (by first | assumption | omega | (rw [zHeadC_eq]; assumption)) (by first | (with_reducible first | exact bys_one _ | exact u32s_one _ | exact u64s_one _ | exact i64s_one _ | exact n64s_one _ | assumption) | exact bys_one _ | exact u32s_one _ | exact u64s_one _ | exact i64s_one _ | exact one_all rfl | (refine app_one ?_ ?_ <;> first | exact bys_one _ | exact one_all rfl | (simp; done))) (by first | assumption | omega | (rw [zHeadC_eq]; assumption)) ?_
    simp only [List.set_cons_zero, List.set_cons_succ]
    refine vl_v (q_assign rfl) rfl ?_
    refine vl_nil ?_
    refine (th_n ?_)
    refine VC_ret ?_
    refine (th_r ?_)
    refine ⟨_, resC2 1 rfl Try.underlying25 rfl rfl rfl sz25 (by first | assumption | omega | (rw [zHeadC_eq]; assumption)) rfl, ?_⟩
    exact rfl
theorem rread_form (l p : List UInt8) (A : Option Addr) (m c x y : Nat) (hm : m = l.length) (hc : m ≤ c) (hb : m ≤ 1000000) (hn : m = 40) (hr : rightB x y = false) (hp : rdP l = p) (hx : rdM l = x) (hy : rdN l = y) (w : World) (hA : SlAt w A (bys l)) :
    Calls Try.prog 12 #[.slice A m c] w fun e w' => e = .returned (.tuple #[.agg (zHeadC).toArray, vN 2]) ∧ Kept [] w w' := by
  have hz := zHeadC_length
  have hzo := zHeadC_one
  have hl : p.length = 32 := by rw [← hp, rdP]; simp; omega
  have hl1 : (headC p x y).length = 34 := headC_length hl _ _
  have o1 : ∀ u ∈ headC p x y, u.oneCell' = true := app_one (bys_one _) (one_all rfl)
  refine enter (n := 21) (R := fun e L => e = .returned (.tuple #[.agg (zHeadC).toArray, vN 2])) [.slice A m c] Try.func12 rfl rfl rfl (St.refl w) ?_ (fun e w' L' h H => ⟨h, H.kept⟩)
  refine VC_seq ?_
  refine VC_region ?_
  refine l_allocA zr25 rfl ?_
  intro b2
  refine vl_v (q_assign rfl) rfl ?_
  refine vl_nil ?_
  refine (th_n ?_)
  refine VC_seq ?_
  refine VC_seq ?_
  refine VC_region ?_
  refine vl_v (q_move rfl) rfl ?_
  refine vl_v (q_lenS Try.underlying26 rfl) rfl ?_
  first | (refine vl_v (q_lss_n (q := 40) Try.underlying3 rfl rfl) rfl ?_) | (refine vl_v (q_lss_k Try.underlying3 rfl rfl) rfl ?_)
  refine vl_nil ?_
  refine (th_n ?_)
  refine VC_cond rfl (fun ht7 => ?_) (fun ht7 => ?_)
  · skip
    exfalso; have ht7 := of_decide_eq_true ht7; omega
  · skip
    have ht7 := of_decide_eq_false ht7
    refine VC_skip ?_
    refine (th_n ?_)
    refine VC_seq ?_
    refine VC_region ?_
    refine vl_v (q_move rfl) rfl ?_
    refine vl_v (q_callV Try.func26 rfl rfl rfl (fun w1 H1 => rof_calls l p A m c x y hm hc hb (by omega) hp hx hy w1 (Reads.old hA w1 H1))) rfl ?_
    refine l_allocA zr25 rfl ?_
    intro b4
    refine l_storeA 0 rfl rfl rfl sz25 (by first | assumption | omega | (rw [zHeadC_eq]; assumption)) (by first | (with_reducible first | exact bys_one _ | exact u32s_one _ | exact u64s_one _ | exact i64s_one _ | exact n64s_one _ | assumption) | exact bys_one _ | exact u32s_one _ | exact u64s_one _ | exact i64s_one _ | exact one_all rfl | (refine app_one ?_ ?_ <;> first | exact bys_one _ | exact one_all rfl | (simp; done))) (by first | assumption | omega | (rw [zHeadC_eq]; assumption)) ?_
    simp only [List.set_cons_zero, List.set_cons_succ]
    refine vl_nil ?_
    refine (th_n ?_)
    refine VC_seq ?_
    refine VC_seq ?_
    refine VC_region ?_
    refine vl_v (q_move rfl) rfl ?_
    refine vl_v (q_lenS Try.underlying26 rfl) rfl ?_
    refine vl_v (q_as (v := .bool false) (q_gtr_n (q := 40) Try.underlying3 rfl rfl) (congrArg Value.bool (decide_eq_false (by omega)))) rfl ?_
    refine vl_v (q_move rfl) rfl ?_
    first | (refine vl_vg rfl (q_loads 0 Try.underlying25 rfl rfl rfl sz25 (by first | assumption | omega | (rw [zHeadC_eq]; assumption))) rfl ?_) | (refine vl_vg rfl (q_loadsAt 0 Try.underlying25 rfl rfl rfl sz25 (by rfl) (by first | assumption | omega | (rw [zHeadC_eq]; assumption))) rfl ?_)
    refine vl_vg rfl (q_as (v := .bool false) (q_callV Try.func20 rfl rfl rfl (fun w1 H1 => rright_calls p x y hl w1)) (by rw [hr])) rfl ?_
    refine vl_vg rfl (q_not rfl) rfl ?_
    first | (refine vl_v (q_pickT rfl rfl) rfl ?_) | (refine vl_v (q_pickF rfl rfl) rfl ?_)
    refine vl_nil ?_
    refine (th_n ?_)
    refine VC_yes (rfl) ?_
    refine VC_seq ?_
    refine VC_region ?_
    refine vl_v (q_build (c' := zHeadC) rfl (by kernel_rfl)) rfl ?_
    refine l_storeA 1 rfl rfl rfl sz25 (by first | assumption | omega | (rw [zHeadC_eq]; assumption)) (by first | (with_reducible first | exact bys_one _ | exact u32s_one _ | exact u64s_one _ | exact i64s_one _ | exact n64s_one _ | assumption) | exact bys_one _ | exact u32s_one _ | exact u64s_one _ | exact i64s_one _ | exact one_all rfl | (refine app_one ?_ ?_ <;> first | exact bys_one _ | exact one_all rfl | (simp; done))) (by first | assumption | omega | (rw [zHeadC_eq]; assumption)) ?_
    simp only [List.set_cons_zero, List.set_cons_succ]
    refine vl_v (q_assign rfl) rfl ?_
    refine vl_nil ?_
    refine (th_n ?_)
    refine VC_ret ?_
    refine (th_r ?_)
    refine ⟨_, resC2 1 rfl Try.underlying25 rfl rfl rfl sz25 (by first | assumption | omega | (rw [zHeadC_eq]; assumption)) rfl, ?_⟩
    exact rfl
theorem rread_calls (l : List UInt8) (A : Option Addr) (m c : Nat) (hm : m = l.length) (hc : m ≤ c) (hb : m ≤ 1000000) (w : World) (hA : SlAt w A (bys l)) :
    Calls Try.prog 12 #[.slice A m c] w fun e w' => e = .returned (.tuple #[.agg (rdC l).toArray, vN (rdE l)]) ∧ Kept [] w w' := by
  unfold rdC rdE
  by_cases h40 : l.length < 40
  · rw [if_pos h40, if_pos h40]
    exact rread_short l _ A m c _ _ hm hc hb (by omega) rfl rfl rfl w hA
  rw [if_neg h40, if_neg h40]
  unfold rdOk
  by_cases h41 : 40 < l.length
  · rw [decide_eq_false (by omega : ¬ l.length = 40), Bool.and_false, if_neg (by decide), if_neg (by decide)]
    exact rread_long l _ A m c _ _ hm hc hb (by omega) rfl rfl rfl w hA
  rw [decide_eq_true (by omega : l.length = 40), Bool.and_true]
  cases hr : rightB (rdM l) (rdN l) with
  | true =>
    rw [if_pos rfl, if_pos rfl]
    exact rread_ok l _ A m c _ _ hm hc hb (by omega) hr rfl rfl rfl w hA
  | false =>
    rw [if_neg (by decide), if_neg (by decide)]
    exact rread_form l _ A m c _ _ hm hc hb (by omega) hr rfl rfl rfl w hA
end Go.Proofs.Ytpjjledbmfmbiaa
