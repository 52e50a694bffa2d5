/- Chapter 11: the law is awake. No condition. -/
import Derived.Test.YtngdppffcdhhlaaC11d
namespace Go.Proofs.Ytngdppffcdhhlaa
open Go.RowKit Go.PBYtngdppffcdhhlaa
set_option linter.unusedVariables false
set_option linter.unusedSimpArgs false
set_option maxRecDepth 10000

theorem put_to {S : List Nat} {w0 w : World} {b m : Nat} {o : Obj} {A : Option Addr} {c : Nat} {L L' : List Ent} {R : List Res} {r : Int} (e : Ent) (lp : e.p.length = 32) (lk : e.k.length = 32) (hnw : (Lit.int .i64 e.n).wf = true) (hG : GoodL L) (hl : L.length ≤ 8) (hp : putR L e = (r, L')) (H : St S w0 (SkR b m o A c L ++ R) w) (hE : MapOf o (mapE L)) :
    Calls Try.prog 10 #[vP b 0, .agg (bys e.p).toArray, vI e.n, .agg (bys e.k).toArray] w fun v w' => v = .returned (.int .i64 r) ∧ SkC S w0 b m L' R w' := by
  have h := put_calls e lp lk hnw H hE hG hl
  rw [hp] at h
  exact h
theorem take_to {S : List Nat} {w0 w : World} {b m : Nat} {o : Obj} {A : Option Addr} {c : Nat} {L L' : List Ent} {R : List Res} {ak : List UInt8} {f : Bool} (p : List UInt8) (n : Int) (lp : p.length = 32) (hnw : (Lit.int .i64 n).wf = true) (hG : GoodL L) (hl : L.length ≤ 8) (ha : askR L (p, n) = (ak, f)) (ht : takeR L (p, n) = L') (H : St S w0 (SkR b m o A c L ++ R) w) (hE : MapOf o (mapE L)) :
    Calls Try.prog 12 #[vP b 0, .agg (bys p).toArray, vI n] w fun v w' => v = .returned (.tuple #[.agg (bys ak).toArray, .bool f]) ∧ SkC S w0 b m L' R w' := by
  have h := take_calls p n lp hnw H hE hG hl
  rw [ha, ht] at h
  exact h
def keyB (x : UInt8) : List UInt8 := x :: List.replicate 31 0
theorem keyB_length (x : UInt8) : (keyB x).length = 32 := by simp [keyB]
theorem wf_i {n : Int} (h1 : -9223372036854775808 ≤ n) (h2 : n ≤ 9223372036854775807) : (Lit.int .i64 n).wf = true := by
  simp only [Lit.wf, Bool.and_eq_true, decide_eq_true_eq]
  exact ⟨h1, h2⟩
theorem good_nil : GoodL [] := ⟨by simp, by simp⟩
def aE : Ent := ⟨keyB 1, 2, keyB 3⟩
theorem aE_good : GoodL [aE] := ⟨fun e he => by rw [List.mem_singleton.1 he]; exact ⟨keyB_length 1, keyB_length 3, wf_i (by decide) (by decide)⟩, by simp⟩
theorem zKey_length : zKey.length = 32 := by simp [zKey]
set_option maxHeartbeats 2000000 in
theorem awake11_calls (w : World) : Calls Try.prog 8 #[] w fun e w' => e = .returned (.bool true) ∧ Kept [] w w' := by
  have l1 := keyB_length 1
  have l3 := keyB_length 3
  have lz := zKey_length
  refine enter (n := 45) (R := fun e L => e = .returned (.bool true)) [] Try.func8 rfl rfl rfl (St.refl w) ?_ (fun e w' L' h H => ⟨h, H.kept⟩)
  refine VC_seq ?_
  refine VC_region ?_
  refine vl_v (q_assign rfl) rfl ?_
  refine vl_nil ?_
  refine (th_n ?_)
  refine VC_seq ?_
  refine VC_region ?_
  refine l_call (F := fun v L' => ∃ bS' mm oo AA cc, v = vP bS' 0 ∧ MapOf oo (mapE []) ∧ L' = SkR bS' mm oo AA cc [] ++ []) Try.func9 rfl rfl rfl (fun w1 H1 => (new_calls w1).mono fun e w' h => ?_) rfl ?_
  · obtain ⟨bS', mm, h1, oo, AA, cc, hE, h2⟩ := h
    rw [List.append_nil] at h2
    exact ⟨_, _, h1, ⟨bS', mm, oo, AA, cc, rfl, hE, rfl⟩, (H1.join h2).perm List.perm_append_comm⟩
  rintro v L' ⟨bS, m1, o0, A0, c0, rfl, hE0, rfl⟩
  simp only [SkR, List.cons_append, List.nil_append, List.append_nil]
  refine vl_v (q_assign rfl) rfl ?_
  refine vl_nil ?_
  refine (th_n ?_)
  refine VC_seq ?_
  refine VC_seq ?_
  refine VC_region ?_
  refine vl_v (q_move rfl) rfl ?_
  refine vl_v (q_eqPN Try.underlying26 rfl rfl) rfl ?_
  refine vl_nil ?_
  refine (th_n ?_)
  refine VC_no (rfl) ?_
  refine VC_skip ?_
  refine (th_n ?_)
  refine VC_seq ?_
  refine VC_region ?_
  refine vl_v (q_move rfl) rfl ?_
  refine vl_v (q_build (c' := bys (keyB 1)) rfl (by kernel_rfl)) rfl ?_
  refine vl_v (q_build (c' := bys (keyB 3)) rfl (by kernel_rfl)) rfl ?_
  refine l_call (F := fun v L' => v = .int .i64 (0) ∧ ∃ o A c, MapOf o (mapE ([aE])) ∧ L' = SkR bS m1 o A c ([aE]) ++ []) Try.func10 rfl rfl rfl (fun w1 H1 => (put_to (r := 0) (L' := [aE]) (aE) (keyB_length 1) (keyB_length 3) (wf_i (by decide) (by decide)) good_nil (by simp) (by rfl) (show St _ _ (SkR bS m1 o0 A0 c0 ([]) ++ []) w1 from H1) hE0).mono fun r w' h => ?_) rfl ?_
  · obtain ⟨h1, o, A, c, hE, h2⟩ := h
    exact ⟨_, _, h1, ⟨rfl, o, A, c, hE, rfl⟩, h2⟩
  rintro v L' ⟨rfl, o1, A1, c1, hE1, rfl⟩
  simp only [SkR, List.cons_append, List.nil_append, List.append_nil]
  refine vl_v (q_assign rfl) rfl ?_
  refine vl_nil ?_
  refine (th_n ?_)
  refine VC_seq ?_
  refine VC_region ?_
  refine vl_v (q_move rfl) rfl ?_
  refine vl_v (q_build (c' := bys (keyB 1)) rfl (by kernel_rfl)) rfl ?_
  refine l_call (F := fun v L' => v = .tuple #[.agg (bys (keyB 3)).toArray, .bool (true)] ∧ ∃ o A c, MapOf o (mapE ([])) ∧ L' = SkR bS m1 o A c ([]) ++ []) Try.func12 rfl rfl rfl (fun w1 H1 => (take_to (ak := keyB 3) (f := true) (L' := []) (keyB 1) (2) (keyB_length 1) (wf_i (by decide) (by decide)) aE_good (by simp) (by decide +kernel) (by decide +kernel) (show St _ _ (SkR bS m1 o1 A1 c1 ([aE]) ++ []) w1 from H1) hE1).mono fun r w' h => ?_) rfl ?_
  · obtain ⟨h1, o, A, c, hE, h2⟩ := h
    exact ⟨_, _, h1, ⟨rfl, o, A, c, hE, rfl⟩, h2⟩
  rintro v L' ⟨rfl, o2, A2, c2, hE2, rfl⟩
  simp only [SkR, List.cons_append, List.nil_append, List.append_nil]
  refine vl_v (q_move rfl) rfl ?_
  refine vl_v (q_ext rfl rfl) rfl ?_
  refine vl_v (q_ext rfl rfl) rfl ?_
  refine l_allocA zr23 rfl ?_
  intro b3
  refine l_storeA 0 rfl rfl rfl sz23 (by first | omega | with_reducible assumption | (simp only [zb, zu, zw, zi, za]; omega) | (simp only [zs, zr, zm, za, zb, zu, zw, zi, zt, zd, zc, zn, *] <;> first | done | omega) | rfl) (by first | (with_reducible first | exact bys_one _ | exact u32s_one _ | exact u64s_one _ | exact i64s_one _ | exact n64s_one _ | assumption) | exact bys_one _ | exact u32s_one _ | exact u64s_one _ | exact i64s_one _ | exact one_all rfl | (refine app_one ?_ ?_ <;> first | exact bys_one _ | exact one_all rfl | (simp; done))) (by first | omega | with_reducible assumption | (simp only [zb, zu, zw, zi, za]; omega) | (simp only [zs, zr, zm, za, zb, zu, zw, zi, zt, zd, zc, zn, *] <;> first | done | omega) | rfl) ?_
  simp only [List.set_cons_zero, List.set_cons_succ]
  refine vl_v (q_assign rfl) rfl ?_
  refine vl_nil ?_
  refine (th_n ?_)
  refine VC_seq ?_
  refine VC_pickL (ks := [1, 2, 3, 0]) (by decide) rfl ?_
  refine VC_region ?_
  refine vl_v (q_move rfl) rfl ?_
  refine vl_v (q_build (c' := bys (keyB 1)) rfl (by kernel_rfl)) rfl ?_
  refine l_call (F := fun v L' => v = .tuple #[.agg (bys (zKey)).toArray, .bool (false)] ∧ ∃ o A c, MapOf o (mapE ([])) ∧ L' = SkR bS m1 o A c ([]) ++ [.blk b3 23 (bys (keyB 3))]) Try.func12 rfl rfl rfl (fun w1 H1 => (take_to (ak := zKey) (f := false) (L' := []) (keyB 1) (2) (keyB_length 1) (wf_i (by decide) (by decide)) good_nil (by simp) (by rfl) (by rfl) (show St _ _ (SkR bS m1 o2 A2 c2 ([]) ++ [.blk b3 23 (bys (keyB 3))]) w1 from H1) hE2).mono fun r w' h => ?_) rfl ?_
  · obtain ⟨h1, o, A, c, hE, h2⟩ := h
    exact ⟨_, _, h1, ⟨rfl, o, A, c, hE, rfl⟩, h2⟩
  rintro v L' ⟨rfl, o3, A3, c3, hE3, rfl⟩
  simp only [SkR, List.cons_append, List.nil_append, List.append_nil]
  refine vl_v (q_move rfl) rfl ?_
  refine vl_v (q_ext rfl rfl) rfl ?_
  refine vl_v (q_ext rfl rfl) rfl ?_
  refine l_allocA zr23 rfl ?_
  intro b5
  refine l_storeA 0 rfl rfl rfl sz23 (by first | omega | with_reducible assumption | (simp only [zb, zu, zw, zi, za]; omega) | (simp only [zs, zr, zm, za, zb, zu, zw, zi, zt, zd, zc, zn, *] <;> first | done | omega) | rfl) (by first | (with_reducible first | exact bys_one _ | exact u32s_one _ | exact u64s_one _ | exact i64s_one _ | exact n64s_one _ | assumption) | exact bys_one _ | exact u32s_one _ | exact u64s_one _ | exact i64s_one _ | exact one_all rfl | (refine app_one ?_ ?_ <;> first | exact bys_one _ | exact one_all rfl | (simp; done))) (by first | omega | with_reducible assumption | (simp only [zb, zu, zw, zi, za]; omega) | (simp only [zs, zr, zm, za, zb, zu, zw, zi, zt, zd, zc, zn, *] <;> first | done | omega) | rfl) ?_
  simp only [List.set_cons_zero, List.set_cons_succ]
  refine vl_v (q_assign rfl) rfl ?_
  refine vl_nil ?_
  refine (th_n ?_)
  refine VC_seq ?_
  refine VC_region ?_
  refine vl_v (q_move rfl) rfl ?_
  refine vl_v (q_true (q_eql_n (q := 0) Try.underlying28 rfl rfl) (decide_eq_true rfl)) rfl ?_
  refine vl_v (q_move rfl) rfl ?_
  refine vl_vg rfl (q_move rfl) rfl ?_
  first | (refine vl_v (q_pickT rfl rfl) rfl ?_) | (refine vl_v (q_pickF rfl rfl) rfl ?_)
  refine vl_v (q_move rfl) rfl ?_
  first | (refine vl_vg rfl (q_loads 4 Try.underlying23 rfl rfl rfl sz23 (by first | omega | with_reducible assumption | (simp only [zb, zu, zw, zi, za]; omega) | (simp only [zs, zr, zm, za, zb, zu, zw, zi, zt, zd, zc, zn, *] <;> first | done | omega) | rfl)) rfl ?_) | (refine vl_vg rfl (q_loadsAt 4 Try.underlying23 rfl rfl rfl sz23 (by rfl) (by first | omega | with_reducible assumption | (simp only [zb, zu, zw, zi, za]; omega) | (simp only [zs, zr, zm, za, zb, zu, zw, zi, zt, zd, zc, zn, *] <;> first | done | omega) | rfl)) rfl ?_)
  refine vl_vg rfl (q_build (c' := bys (keyB 3)) rfl (by kernel_rfl)) rfl ?_
  refine vl_vg rfl (q_eqT flatKey rfl rfl (fits_bys' l3) rfl) rfl ?_
  first | (refine vl_v (q_pickT rfl rfl) rfl ?_) | (refine vl_v (q_pickF rfl rfl) rfl ?_)
  refine vl_v (q_move rfl) rfl ?_
  refine vl_vg rfl (q_move rfl) rfl ?_
  refine vl_vg rfl (q_not rfl) rfl ?_
  first | (refine vl_v (q_pickT rfl rfl) rfl ?_) | (refine vl_v (q_pickF rfl rfl) rfl ?_)
  refine vl_v (q_move rfl) rfl ?_
  refine vl_vg rfl (q_move rfl) rfl ?_
  refine vl_vg rfl (q_callV Try.func11 rfl rfl rfl (fun w1 H1 => len_calls bS (0) c3 _ A3 w1 (Reads.blk 1 rfl w1 H1))) rfl ?_
  refine vl_vg rfl (q_true (q_eql_n (q := 0) Try.underlying3 rfl rfl) (decide_eq_true rfl)) rfl ?_
  first | (refine vl_v (q_pickT rfl rfl) rfl ?_) | (refine vl_v (q_pickF rfl rfl) rfl ?_)
  refine vl_v (q_assign rfl) rfl ?_
  refine vl_nil ?_
  refine (th_n ?_)
  refine VC_ret ?_
  refine ⟨_, res1 rfl rfl, ?_⟩
  exact rfl
end Go.Proofs.Ytngdppffcdhhlaa
