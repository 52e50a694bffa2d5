/- What the functions Mult and Base of package curve do, and that the law is awake. Conditions: lengths. -/
import Derived.Test.YtjllcdgnmdieoaaC07b
import Derived.Test.YtjllcdgnmdieoaaS07b
import Derived.Test.YtjllcdgnmdieoaaAK
namespace Go.Proofs.Ytjllcdgnmdieoaa
open Go.RowKit Go.PBYtjllcdgnmdieoaa
set_option linter.unusedVariables false
set_option linter.unusedSimpArgs false
set_option maxRecDepth 10000

theorem mult_calls (k p : List UInt8) (hk : k.length = 32) (hp : p.length = 32) (w : World) :
    Calls Try.prog 9 #[.agg (bys k).toArray, .agg (bys p).toArray] w fun e w' => e = .returned (.agg (bys (kf (xm (sbit k) (lf p)))).toArray) ∧ Kept [] w w' :=
  mult_walk k p (clampB k) (ofL p) (ofL gK) (ofL (smallB 1)) (ladL (ofL p) (ofL gK) (sbit k) (q0L (ofL p))) (kf (xm (sbit k) (lf p))) hk hp rfl rfl rfl rfl
    (ladL_ok (ofL_okE hp) (ofL_okE gK_length) (sbit k) (q0L_ok (ofL_okE hp))) rfl (fun j => rfl) (mult_fin k p hp) w
set_option maxHeartbeats 1000000 in
theorem base_calls (k r : List UInt8) (hk : k.length = 32) (hr : kf (xm (sbit k) (lf (smallB 9))) = r) (w : World) :
    Calls Try.prog 11 #[.agg (bys k).toArray] w fun e w' => e = .returned (.agg (bys r).toArray) ∧ Kept [] w w' := by
  have lr : r.length = 32 := by rw [← hr]; exact kf_length _
  refine enter (n := 6) (R := fun e L => e = .returned (.agg (bys r).toArray)) [.agg (bys k).toArray] Try.func11 rfl rfl rfl (St.refl w) ?_ (fun e w' L' h H => ⟨h, H.kept⟩)
  refine VC_seq ?_
  refine VC_region ?_
  refine l_boxA rfl rfl ?_
  intro b1
  refine l_allocA zr23 rfl ?_
  intro b2
  refine vl_nil ?_
  refine (th_n ?_)
  refine VC_seq ?_
  refine VC_region ?_
  first | (refine vl_v (q_loads 1 Try.underlying23 rfl rfl rfl sz23 (by first | omega | with_reducible assumption | (simp only [bys_length, u32s_length, u64s_length, i64s_length, n64s_length, List.length_append]; omega) | (simp only [List.length_set, List.length_replicate, List.length_map, List.length_append, bys_length, u32s_length, u64s_length, i64s_length, List.length_take, List.length_drop, List.length_cons, List.length_nil, *] <;> first | done | omega) | rfl)) rfl ?_) | (refine vl_v (q_loadsAt 1 Try.underlying23 rfl rfl rfl sz23 (by rfl) (by first | omega | with_reducible assumption | (simp only [bys_length, u32s_length, u64s_length, i64s_length, n64s_length, List.length_append]; omega) | (simp only [List.length_set, List.length_replicate, List.length_map, List.length_append, bys_length, u32s_length, u64s_length, i64s_length, List.length_take, List.length_drop, List.length_cons, List.length_nil, *] <;> first | done | omega) | rfl)) rfl ?_)
  refine vl_v (q_build (c' := bys (smallB 9)) rfl (by kernel_rfl)) rfl ?_
  refine vl_v (q_callV Try.func9 rfl rfl rfl (fun w1 H1 => hr ▸ mult_calls k (smallB 9) hk (smallB_length 9) w1)) rfl ?_
  refine l_storeA 0 rfl rfl rfl sz23 (by first | omega | with_reducible assumption | (simp only [bys_length, u32s_length, u64s_length, i64s_length, n64s_length, List.length_append]; omega) | (simp only [List.length_set, List.length_replicate, List.length_map, List.length_append, bys_length, u32s_length, u64s_length, i64s_length, List.length_take, List.length_drop, List.length_cons, List.length_nil, *] <;> first | done | omega) | rfl) (by first | with_reducible exact bys_one _ | with_reducible exact u32s_one _ | with_reducible exact u64s_one _ | with_reducible exact i64s_one _ | with_reducible exact n64s_one _ | exact bys_one _ | exact u32s_one _ | exact u64s_one _ | exact i64s_one _ | with_reducible assumption | exact one_all rfl | (refine app_one ?_ ?_ <;> first | exact bys_one _ | (simp; done))) (by first | omega | with_reducible assumption | (simp only [bys_length, u32s_length, u64s_length, i64s_length, n64s_length, List.length_append]; omega) | (simp only [List.length_set, List.length_replicate, List.length_map, List.length_append, bys_length, u32s_length, u64s_length, i64s_length, List.length_take, List.length_drop, List.length_cons, List.length_nil, *] <;> first | done | omega) | rfl) ?_
  simp only [List.set_cons_zero, List.set_cons_succ]
  refine vl_nil ?_
  refine (th_n ?_)
  refine VC_ret ?_
  refine ⟨_, resC1 0 rfl Try.underlying23 rfl rfl rfl sz23 (by first | omega | with_reducible assumption | (simp only [bys_length, u32s_length, u64s_length, i64s_length, n64s_length, List.length_append]; omega) | (simp only [List.length_set, List.length_replicate, List.length_map, List.length_append, bys_length, u32s_length, u64s_length, i64s_length, List.length_take, List.length_drop, List.length_cons, List.length_nil, *] <;> first | done | omega) | rfl), ?_⟩
  exact rfl
set_option maxHeartbeats 1000000 in
theorem awake7_calls (w : World) : Calls Try.prog 8 #[] w fun e w' => e = .returned (.bool true) ∧ Kept [] w w' := by
  obtain ⟨r, hr⟩ : ∃ r, kf (xm (sbit (smallB 9)) (lf (smallB 9))) = r := ⟨_, rfl⟩
  have lr : r.length = 32 := by rw [← hr]; exact kf_length _
  obtain ⟨h0, h1, h31⟩ := kf9
  rw [hr] at h0 h1 h31
  refine enter (n := 17) (R := fun e L => e = .returned (.bool true)) [] Try.func8 rfl rfl rfl (St.refl w) ?_ (fun e w' L' h H => ⟨h, H.kept⟩)
  refine VC_seq ?_
  refine VC_region ?_
  refine vl_v (q_assign rfl) rfl ?_
  refine vl_nil ?_
  refine (th_n ?_)
  refine VC_seq ?_
  refine VC_region ?_
  refine vl_v (q_build (c' := bys (smallB 9)) rfl (by kernel_rfl)) rfl ?_
  refine vl_v (q_callV Try.func11 rfl rfl rfl (fun w1 H1 => base_calls (smallB 9) r (smallB_length 9) hr w1)) rfl ?_
  refine l_allocA zr23 rfl ?_
  intro b1
  refine l_storeA 0 rfl rfl rfl sz23 (by first | omega | with_reducible assumption | (simp only [bys_length, u32s_length, u64s_length, i64s_length, n64s_length, List.length_append]; omega) | (simp only [List.length_set, List.length_replicate, List.length_map, List.length_append, bys_length, u32s_length, u64s_length, i64s_length, List.length_take, List.length_drop, List.length_cons, List.length_nil, *] <;> first | done | omega) | rfl) (by first | with_reducible exact bys_one _ | with_reducible exact u32s_one _ | with_reducible exact u64s_one _ | with_reducible exact i64s_one _ | with_reducible exact n64s_one _ | exact bys_one _ | exact u32s_one _ | exact u64s_one _ | exact i64s_one _ | with_reducible assumption | exact one_all rfl | (refine app_one ?_ ?_ <;> first | exact bys_one _ | (simp; done))) (by first | omega | with_reducible assumption | (simp only [bys_length, u32s_length, u64s_length, i64s_length, n64s_length, List.length_append]; omega) | (simp only [List.length_set, List.length_replicate, List.length_map, List.length_append, bys_length, u32s_length, u64s_length, i64s_length, List.length_take, List.length_drop, List.length_cons, List.length_nil, *] <;> first | done | omega) | rfl) ?_
  simp only [List.set_cons_zero, List.set_cons_succ]
  refine vl_nil ?_
  refine (th_n ?_)
  refine VC_seq ?_
  refine VC_region ?_
  first | (refine vl_v (q_idxA (m := 0) Try.underlying23 sz5 rfl rfl (by omega) (r := _) (by rw [Nat.mul_one, Nat.zero_add])) rfl ?_) | (refine vl_v (q_idxA (m := 0) Try.underlying23 sz5 rfl rfl (by omega) rfl) rfl ?_)
  first | (refine vl_v (q_load 0 Try.underlying5 rfl rfl rfl (bys_at (by first | omega | with_reducible assumption | (simp only [bys_length, u32s_length, u64s_length, i64s_length, n64s_length, List.length_append]; omega) | (simp only [List.length_set, List.length_replicate, List.length_map, List.length_append, bys_length, u32s_length, u64s_length, i64s_length, List.length_take, List.length_drop, List.length_cons, List.length_nil, *] <;> first | done | omega) | rfl))) rfl ?_) | (refine vl_v (q_load 0 Try.underlying5 rfl rfl rfl rfl) rfl ?_)
  refine vl_v (q_as (v := .bool true) (q_eql_k (q := 66) Try.underlying5 rfl rfl) (by rw [h0]; rfl)) rfl ?_
  refine vl_v (q_move rfl) rfl ?_
  first | (refine vl_vg rfl (q_idxA (m := 1) Try.underlying23 sz5 rfl rfl (by omega) (r := _) (by rw [Nat.mul_one, Nat.zero_add])) rfl ?_) | (refine vl_vg rfl (q_idxA (m := 1) Try.underlying23 sz5 rfl rfl (by omega) rfl) rfl ?_)
  first | (refine vl_vg rfl (q_load 0 Try.underlying5 rfl rfl rfl (bys_at (by first | omega | with_reducible assumption | (simp only [bys_length, u32s_length, u64s_length, i64s_length, n64s_length, List.length_append]; omega) | (simp only [List.length_set, List.length_replicate, List.length_map, List.length_append, bys_length, u32s_length, u64s_length, i64s_length, List.length_take, List.length_drop, List.length_cons, List.length_nil, *] <;> first | done | omega) | rfl))) rfl ?_) | (refine vl_vg rfl (q_load 0 Try.underlying5 rfl rfl rfl rfl) rfl ?_)
  refine vl_vg rfl (q_as (v := .bool true) (q_eql_k (q := 44) Try.underlying5 rfl rfl) (by rw [h1]; rfl)) rfl ?_
  first | (refine vl_v (q_pickT rfl rfl) rfl ?_) | (refine vl_v (q_pickF rfl rfl) rfl ?_)
  refine vl_v (q_move rfl) rfl ?_
  first | (refine vl_vg rfl (q_idxA (m := 31) Try.underlying23 sz5 rfl rfl (by omega) (r := _) (by rw [Nat.mul_one, Nat.zero_add])) rfl ?_) | (refine vl_vg rfl (q_idxA (m := 31) Try.underlying23 sz5 rfl rfl (by omega) rfl) rfl ?_)
  first | (refine vl_vg rfl (q_load 0 Try.underlying5 rfl rfl rfl (bys_at (by first | omega | with_reducible assumption | (simp only [bys_length, u32s_length, u64s_length, i64s_length, n64s_length, List.length_append]; omega) | (simp only [List.length_set, List.length_replicate, List.length_map, List.length_append, bys_length, u32s_length, u64s_length, i64s_length, List.length_take, List.length_drop, List.length_cons, List.length_nil, *] <;> first | done | omega) | rfl))) rfl ?_) | (refine vl_vg rfl (q_load 0 Try.underlying5 rfl rfl rfl rfl) rfl ?_)
  refine vl_vg rfl (q_as (v := .bool true) (q_eql_k (q := 121) Try.underlying5 rfl rfl) (by rw [h31]; rfl)) rfl ?_
  first | (refine vl_v (q_pickT rfl rfl) rfl ?_) | (refine vl_v (q_pickF rfl rfl) rfl ?_)
  refine vl_v (q_assign rfl) rfl ?_
  refine vl_nil ?_
  refine (th_n ?_)
  refine VC_ret ?_
  refine ⟨_, res1 rfl rfl, ?_⟩
  exact rfl
end Go.Proofs.Ytjllcdgnmdieoaa
