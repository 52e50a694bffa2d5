/- What the field's sum of many is. Conditions: numbers as they are kept. -/
import Derived.Test.YtlpjhjoaafhcjaaC06b
import Derived.Test.YtlpjhjoaafhcjaaSH
namespace Go.PBYtlpjhjoaafhcjaa
open Go Go.RowKit
set_option linter.unusedVariables false
def sumSt (es : List (List Int)) : Nat → List Int
  | 0 => List.replicate 16 0
  | i + 1 => addL (sumSt es i) (es.getD i [])
theorem zero_okE : okE (List.replicate 16 0) := dig_okE ⟨rfl, fun j hj => by rw [rep0]; omega⟩
theorem ef_zero : ef (List.replicate 16 0) = 0 := by rw [ef, valI_rep]; rfl
theorem getD_okE {es : List (List Int)} (h : ∀ e ∈ es, okE e) {i : Nat} (hi : i < es.length) : okE (es.getD i []) := by
  rw [show es.getD i [] = es[i] by simp [hi]]
  exact h _ (List.getElem_mem hi)
theorem sumSt_okE {es : List (List Int)} (h : ∀ e ∈ es, okE e) : ∀ i, i ≤ es.length → okE (sumSt es i)
  | 0, _ => zero_okE
  | i + 1, hi => addL_okE (sumSt_okE h i (by omega)) (getD_okE h (by omega))
theorem flatPart : ∀ (es : List (List Int)) (i : Nat), (∀ e ∈ es, e.length = 16) → i < es.length → (es.flatten.drop (i * 16)).take 16 = es.getD i []
  | [], i, _, h => by simp at h
  | e :: es, 0, h, _ => by
    have := h e (by simp)
    rw [Nat.zero_mul, List.drop_zero, List.flatten_cons, List.take_left' this]
    rfl
  | e :: es, i + 1, h, hi => by
    have he := h e (by simp)
    rw [List.flatten_cons, show (i + 1) * 16 = 16 + i * 16 by omega, ← List.drop_drop, List.drop_left' he, flatPart es i (fun e' h' => h e' (by simp [h'])) (by simpa using hi)]
    simp
theorem flat_length : ∀ (es : List (List Int)), (∀ e ∈ es, e.length = 16) → es.flatten.length = es.length * 16
  | [], _ => rfl
  | e :: es, h => by
    rw [List.flatten_cons, List.length_append, h e (by simp), flat_length es (fun e' h' => h e' (by simp [h'])), List.length_cons]
    omega
end Go.PBYtlpjhjoaafhcjaa
namespace Go.Proofs.Ytlpjhjoaafhcjaa
open Go.RowKit Go.PBYtlpjhjoaafhcjaa
set_option linter.unusedVariables false
set_option linter.unusedSimpArgs false
set_option maxRecDepth 10000
set_option maxHeartbeats 2000000 in
theorem sum_calls (es : List (List Int)) (hes : ∀ e ∈ es, okE e) (A : Option Addr) (n c : Nat) (hn : n = es.length) (hle : es.length ≤ 1000) (w : World) (hA : SlAt w A (i64s es.flatten)) :
    Calls Try.prog 22 #[.slice A n c] w fun e w' => e = .returned (.agg (i64s (sumSt es es.length)).toArray) ∧ Kept [] w w' := by
  subst hn
  have hl16 : ∀ e ∈ es, e.length = 16 := fun e h => (hes e h).1
  have hfl := flat_length es hl16
  have hsn := (sumSt_okE hes es.length (Nat.le_refl _)).1
  refine enter (n := 17) (R := fun e L => e = .returned (.agg (i64s (sumSt es es.length)).toArray)) [.slice A es.length c] Try.func22 rfl rfl rfl (St.refl w) ?_ (fun e w' L' h H => ⟨h, H.kept⟩)
  refine VC_seq ?_
  refine VC_region ?_
  refine l_allocA zr27 rfl ?_
  intro b2
  refine vl_nil ?_
  refine (th_n ?_)
  refine VC_seq ?_
  refine VC_region ?_
  refine l_allocA zr27 rfl ?_
  intro b3
  refine vl_nil ?_
  refine (th_n ?_)
  refine VC_seq ?_
  refine VC_seq ?_
  refine VC_region ?_
  refine vl_v (q_move rfl) rfl ?_
  refine vl_v (q_lenS Try.underlying41 rfl) rfl ?_
  refine vl_v (q_move rfl) rfl ?_
  refine vl_nil ?_
  refine (th_n ?_)
  refine VC_block ?_
  refine VC_loop (ι := Nat) (fun i => i ≤ es.length) (fun i => [(2, vP b2 0), (3, vP b3 0), (6, .slice A es.length c), (7, vN es.length), (8, vN i)]) (fun i => [.blk b3 27 (i64s (sumSt es i)), .blk b2 27 (i64s (List.replicate 16 0))]) (fun i => es.length - i) 0 (by omega) (Sub.cons (s := 2) rfl (Sub.cons (s := 3) rfl (Sub.cons (s := 6) rfl (Sub.cons (s := 7) rfl (Sub.cons (s := 8) rfl (Sub.nil _)))))) (fun w H => H) ?_
  rintro i hp
  refine VC_seq ?_
  refine VC_region ?_
  refine vl_v (q_lss_n Try.underlying3 rfl rfl) rfl ?_
  refine vl_nil ?_
  refine (th_n ?_)
  refine VC_seq ?_
  refine VC_cond rfl (fun ht9 => ?_) (fun ht9 => ?_)
  · skip
    have ht9 := of_decide_eq_true ht9
    refine VC_skip ?_
    refine (th_n ?_)
    refine VC_seq ?_
    refine VC_block ?_
    refine VC_seq ?_
    have ht9 : i < es.length := ht9
    have hei := getD_okE hes ht9
    have hel := hei.1
    have hsi := sumSt_okE hes i (by omega)
    have hsl := hsi.1
    have hal := (addL_okE hsi hei).1
    refine VC_region ?_
    refine vl_v (q_idxRdN (m := i) Try.underlying41 sz27 rfl rfl ht9 (Reads.old hA) (by rw [i64s_length, hfl]; omega)) rfl ?_
    refine vl_v (q_loadsRd (us := i64s (es.getD i [])) Try.underlying27 rfl sz27 rfl (Reads.old hA) (by unfold i64s; rw [← List.map_drop, ← List.map_take, flatPart es i hl16 ht9]) (by rw [i64s_length]; exact hel) (by decide)) rfl ?_
    refine l_allocA zr27 rfl ?_
    intro b5
    refine l_storeA 0 rfl rfl rfl sz27 (by first | omega | with_reducible assumption | (simp only [bys_length, u32s_length, u64s_length, i64s_length, n64s_length, List.length_append]; omega) | (simp only [List.length_set, List.length_replicate, List.length_map, List.length_append, bys_length, u32s_length, u64s_length, i64s_length, List.length_take, List.length_drop, List.length_cons, List.length_nil, *] <;> first | done | omega) | rfl) (by first | with_reducible exact bys_one _ | with_reducible exact u32s_one _ | with_reducible exact u64s_one _ | with_reducible exact i64s_one _ | with_reducible exact n64s_one _ | exact bys_one _ | exact u32s_one _ | exact u64s_one _ | exact i64s_one _ | with_reducible assumption | exact one_all rfl | (refine app_one ?_ ?_ <;> first | exact bys_one _ | (simp; done))) (by first | omega | with_reducible assumption | (simp only [bys_length, u32s_length, u64s_length, i64s_length, n64s_length, List.length_append]; omega) | (simp only [List.length_set, List.length_replicate, List.length_map, List.length_append, bys_length, u32s_length, u64s_length, i64s_length, List.length_take, List.length_drop, List.length_cons, List.length_nil, *] <;> first | done | omega) | rfl) ?_
    simp only [List.set_cons_zero, List.set_cons_succ]
    refine vl_nil ?_
    refine (th_n ?_)
    refine VC_region ?_
    first | (refine vl_v (q_loads 1 Try.underlying27 rfl rfl rfl sz27 (by first | omega | with_reducible assumption | (simp only [bys_length, u32s_length, u64s_length, i64s_length, n64s_length, List.length_append]; omega) | (simp only [List.length_set, List.length_replicate, List.length_map, List.length_append, bys_length, u32s_length, u64s_length, i64s_length, List.length_take, List.length_drop, List.length_cons, List.length_nil, *] <;> first | done | omega) | rfl)) rfl ?_) | (refine vl_v (q_loadsAt 1 Try.underlying27 rfl rfl rfl sz27 (by rfl) (by first | omega | with_reducible assumption | (simp only [bys_length, u32s_length, u64s_length, i64s_length, n64s_length, List.length_append]; omega) | (simp only [List.length_set, List.length_replicate, List.length_map, List.length_append, bys_length, u32s_length, u64s_length, i64s_length, List.length_take, List.length_drop, List.length_cons, List.length_nil, *] <;> first | done | omega) | rfl)) rfl ?_)
    first | (refine vl_v (q_loads 0 Try.underlying27 rfl rfl rfl sz27 (by first | omega | with_reducible assumption | (simp only [bys_length, u32s_length, u64s_length, i64s_length, n64s_length, List.length_append]; omega) | (simp only [List.length_set, List.length_replicate, List.length_map, List.length_append, bys_length, u32s_length, u64s_length, i64s_length, List.length_take, List.length_drop, List.length_cons, List.length_nil, *] <;> first | done | omega) | rfl)) rfl ?_) | (refine vl_v (q_loadsAt 0 Try.underlying27 rfl rfl rfl sz27 (by rfl) (by first | omega | with_reducible assumption | (simp only [bys_length, u32s_length, u64s_length, i64s_length, n64s_length, List.length_append]; omega) | (simp only [List.length_set, List.length_replicate, List.length_map, List.length_append, bys_length, u32s_length, u64s_length, i64s_length, List.length_take, List.length_drop, List.length_cons, List.length_nil, *] <;> first | done | omega) | rfl)) rfl ?_)
    refine vl_v (q_callV Try.func14 rfl rfl rfl (fun w1 H1 => add_calls _ _ hsi hei w1)) rfl ?_
    refine l_storeA 1 rfl rfl rfl sz27 (by first | omega | with_reducible assumption | (simp only [bys_length, u32s_length, u64s_length, i64s_length, n64s_length, List.length_append]; omega) | (simp only [List.length_set, List.length_replicate, List.length_map, List.length_append, bys_length, u32s_length, u64s_length, i64s_length, List.length_take, List.length_drop, List.length_cons, List.length_nil, *] <;> first | done | omega) | rfl) (by first | with_reducible exact bys_one _ | with_reducible exact u32s_one _ | with_reducible exact u64s_one _ | with_reducible exact i64s_one _ | with_reducible exact n64s_one _ | exact bys_one _ | exact u32s_one _ | exact u64s_one _ | exact i64s_one _ | with_reducible assumption | exact one_all rfl | (refine app_one ?_ ?_ <;> first | exact bys_one _ | (simp; done))) (by first | omega | with_reducible assumption | (simp only [bys_length, u32s_length, u64s_length, i64s_length, n64s_length, List.length_append]; omega) | (simp only [List.length_set, List.length_replicate, List.length_map, List.length_append, bys_length, u32s_length, u64s_length, i64s_length, List.length_take, List.length_drop, List.length_cons, List.length_nil, *] <;> first | done | omega) | rfl) ?_
    simp only [List.set_cons_zero, List.set_cons_succ]
    refine vl_nil ?_
    refine (bl_n (th_n ?_))
    refine VC_region ?_
    first | (refine vl_v (q_add_n (q := 1) rfl rfl (by omega)) rfl ?_) | (refine vl_v (q_add_i rfl rfl (by omega) (by omega)) rfl ?_)
    refine vl_v (q_move rfl) rfl ?_
    refine vl_nil ?_
    refine (th_n ?_)
    refine ⟨i + 1, by omega, by omega, (Sub.cons (s := 2) rfl (Sub.cons (s := 3) rfl (Sub.cons (s := 6) rfl (Sub.cons (s := 7) rfl (Sub.cons (s := 8) rfl (Sub.nil _)))))), fun w H => St.pick H (ks := [1, 2]) (by decide) rfl⟩
  · skip
    have ht9 := of_decide_eq_false ht9
    obtain rfl : i = es.length := by omega
    refine VC_exit ?_
    refine (th_x (th_x (bl_xs (th_n ?_))))
    refine VC_seq ?_
    refine VC_region ?_
    first | (refine vl_v (q_loads 0 Try.underlying27 rfl rfl rfl sz27 (by first | omega | with_reducible assumption | (simp only [bys_length, u32s_length, u64s_length, i64s_length, n64s_length, List.length_append]; omega) | (simp only [List.length_set, List.length_replicate, List.length_map, List.length_append, bys_length, u32s_length, u64s_length, i64s_length, List.length_take, List.length_drop, List.length_cons, List.length_nil, *] <;> first | done | omega) | rfl)) rfl ?_) | (refine vl_v (q_loadsAt 0 Try.underlying27 rfl rfl rfl sz27 (by rfl) (by first | omega | with_reducible assumption | (simp only [bys_length, u32s_length, u64s_length, i64s_length, n64s_length, List.length_append]; omega) | (simp only [List.length_set, List.length_replicate, List.length_map, List.length_append, bys_length, u32s_length, u64s_length, i64s_length, List.length_take, List.length_drop, List.length_cons, List.length_nil, *] <;> first | done | omega) | rfl)) rfl ?_)
    refine l_storeA 1 rfl rfl rfl sz27 (by first | omega | with_reducible assumption | (simp only [bys_length, u32s_length, u64s_length, i64s_length, n64s_length, List.length_append]; omega) | (simp only [List.length_set, List.length_replicate, List.length_map, List.length_append, bys_length, u32s_length, u64s_length, i64s_length, List.length_take, List.length_drop, List.length_cons, List.length_nil, *] <;> first | done | omega) | rfl) (by first | with_reducible exact bys_one _ | with_reducible exact u32s_one _ | with_reducible exact u64s_one _ | with_reducible exact i64s_one _ | with_reducible exact n64s_one _ | exact bys_one _ | exact u32s_one _ | exact u64s_one _ | exact i64s_one _ | with_reducible assumption | exact one_all rfl | (refine app_one ?_ ?_ <;> first | exact bys_one _ | (simp; done))) (by first | omega | with_reducible assumption | (simp only [bys_length, u32s_length, u64s_length, i64s_length, n64s_length, List.length_append]; omega) | (simp only [List.length_set, List.length_replicate, List.length_map, List.length_append, bys_length, u32s_length, u64s_length, i64s_length, List.length_take, List.length_drop, List.length_cons, List.length_nil, *] <;> first | done | omega) | rfl) ?_
    simp only [List.set_cons_zero, List.set_cons_succ]
    refine vl_nil ?_
    refine (th_n ?_)
    refine VC_ret ?_
    refine ⟨_, resC1 1 rfl Try.underlying27 rfl rfl rfl sz27 (by first | omega | with_reducible assumption | (simp only [bys_length, u32s_length, u64s_length, i64s_length, n64s_length, List.length_append]; omega) | (simp only [List.length_set, List.length_replicate, List.length_map, List.length_append, bys_length, u32s_length, u64s_length, i64s_length, List.length_take, List.length_drop, List.length_cons, List.length_nil, *] <;> first | done | omega) | rfl), ?_⟩
    exact rfl
end Go.Proofs.Ytlpjhjoaafhcjaa
