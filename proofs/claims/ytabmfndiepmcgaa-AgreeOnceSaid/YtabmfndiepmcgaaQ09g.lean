/- Words and laws that the proofs of this seat share, part 7 of 8. No condition. -/
import Derived.Test.YtabmfndiepmcgaaQ09f
section
namespace Go.Proofs.Ytabmfndiepmcgaa
open Go.RowKit Go.PBYtabmfndiepmcgaa
set_option linter.unusedVariables false
set_option linter.unusedSimpArgs false
set_option maxRecDepth 10000
set_option maxHeartbeats 4000000 in
theorem rmult_walk (k p : List UInt8) (x : List Nat) (F : Nat → List Nat × List Nat × List Nat × List Nat) (res : List UInt8) (hk : k.length = 32) (hp : p.length = 32)
    (hx : rofL p = x) (ok : ∀ j, all4 digN (F j)) (F0 : F 0 = (oneN, x, List.replicate 16 0, oneN)) (Fs : ∀ j, F (j + 1) = sw (sbit k (254 - j)) (stepC raddL rsubL rmulL x gN (sw (sbit k (254 - j)) (F j)))) (hres : keyV (valI (cz (rmulL (F 255).1 (rinvL (F 255).2.2.1)))) = res) (w : World) :
    Calls Try.prog 27 #[.agg (bys k).toArray, .agg (bys p).toArray] w fun e w' => e = .returned (.agg (bys res).toArray) ∧ Kept [] w w' := by
  have ox : digN x := by rw [← hx]; exact rofL_dig hp
  have lx := ox.1
  have o1 := oneN_dig
  have ll1 := o1.1
  have og := gN_dig
  have lg := og.1
  have lres : res.length = 32 := by rw [← hres]; exact keyV_length _
  refine enter (n := 104) (R := fun e L => e = .returned (.agg (bys res).toArray)) [.agg (bys k).toArray, .agg (bys p).toArray] Try.func27 rfl rfl rfl (St.refl w) ?_ (fun e w' L' h H => ⟨h, H.kept⟩)
  refine VC_seq ?_
  refine VC_region ?_
  refine l_boxA rfl rfl ?_
  intro b2
  refine l_boxA rfl rfl ?_
  intro b3
  refine l_allocA zr23 rfl ?_
  intro b4
  refine vl_nil ?_
  refine (th_n ?_)
  refine VC_seq ?_
  refine VC_region ?_
  refine vl_v (q_loads 1 Try.underlying23 rfl rfl rfl sz23 (by simp only [zb, zu, zw, zi, n64s_length, za]; omega)) rfl ?_
  refine vl_v (q_callV Try.func34 rfl rfl rfl (fun w1 H1 => hx ▸ rof_calls p hp w1)) rfl ?_
  refine l_allocA zr65 rfl ?_
  intro b5
  simp only [u64s_rep]
  refine l_storeA 0 rfl rfl rfl sz65 (by simp only [zb, zu, zw, zi, n64s_length, za]; omega) (by with_reducible first | exact bys_one _ | exact u32s_one _ | exact u64s_one _ | exact i64s_one _ | exact n64s_one _ | assumption) (by simp only [zs, zr, zm, za, zb, zu, zw, zi, n64s_length, zt, zd, zc, zn, *] <;> first | done | omega) ?_
  simp only [List.set_cons_zero, List.set_cons_succ]
  refine vl_nil ?_
  refine (th_n ?_)
  refine VC_seq ?_
  refine VC_region ?_
  refine vl_v (q_build (c' := n64s oneN) rfl (by kernel_rfl)) rfl ?_
  refine l_allocA zr65 rfl ?_
  intro b6
  simp only [u64s_rep]
  refine l_storeA 0 rfl rfl rfl sz65 (by simp only [zb, zu, zw, zi, n64s_length, za]; omega) (by with_reducible first | exact bys_one _ | exact u32s_one _ | exact u64s_one _ | exact i64s_one _ | exact n64s_one _ | assumption) (by simp only [zs, zr, zm, za, zb, zu, zw, zi, n64s_length, zt, zd, zc, zn, *] <;> first | done | omega) ?_
  simp only [List.set_cons_zero, List.set_cons_succ]
  refine vl_nil ?_
  refine (th_n ?_)
  refine VC_seq ?_
  refine VC_region ?_
  refine vl_v (q_loads 1 Try.underlying65 rfl rfl rfl sz65 (by simp only [zb, zu, zw, zi, n64s_length, za]; omega)) rfl ?_
  refine l_allocA zr65 rfl ?_
  intro b7
  simp only [u64s_rep]
  refine l_storeA 0 rfl rfl rfl sz65 (by simp only [zb, zu, zw, zi, n64s_length, za]; omega) (by with_reducible first | exact bys_one _ | exact u32s_one _ | exact u64s_one _ | exact i64s_one _ | exact n64s_one _ | assumption) (by simp only [zs, zr, zm, za, zb, zu, zw, zi, n64s_length, zt, zd, zc, zn, *] <;> first | done | omega) ?_
  simp only [List.set_cons_zero, List.set_cons_succ]
  refine vl_nil ?_
  refine (th_n ?_)
  refine VC_seq ?_
  refine VC_region ?_
  refine vl_v (q_build (c' := n64s (List.replicate 16 0)) rfl (by kernel_rfl)) rfl ?_
  refine l_allocA zr65 rfl ?_
  intro b8
  simp only [u64s_rep]
  refine l_storeA 0 rfl rfl rfl sz65 (by simp only [zs, zr, zm, za, zb, zu, zw, zi, n64s_length, zt, zd, zc, zn, *] <;> first | done | omega) (by with_reducible first | exact bys_one _ | exact u32s_one _ | exact u64s_one _ | exact i64s_one _ | exact n64s_one _ | assumption) (by simp only [zs, zr, zm, za, zb, zu, zw, zi, n64s_length, zt, zd, zc, zn, *] <;> first | done | omega) ?_
  simp only [List.set_cons_zero, List.set_cons_succ]
  refine vl_nil ?_
  refine (th_n ?_)
  refine VC_seq ?_
  refine VC_region ?_
  refine vl_v (q_build (c' := n64s oneN) rfl (by kernel_rfl)) rfl ?_
  refine l_allocA zr65 rfl ?_
  intro b9
  simp only [u64s_rep]
  refine l_storeA 0 rfl rfl rfl sz65 (by simp only [zb, zu, zw, zi, n64s_length, za]; omega) (by with_reducible first | exact bys_one _ | exact u32s_one _ | exact u64s_one _ | exact i64s_one _ | exact n64s_one _ | assumption) (by simp only [zs, zr, zm, za, zb, zu, zw, zi, n64s_length, zt, zd, zc, zn, *] <;> first | done | omega) ?_
  simp only [List.set_cons_zero, List.set_cons_succ]
  refine vl_nil ?_
  refine (th_n ?_)
  refine VC_seq ?_
  refine VC_seq ?_
  refine VC_region ?_
  refine vl_v (q_assign rfl) rfl ?_
  refine vl_nil ?_
  refine (th_n ?_)
  refine VC_block ?_
  refine VC_loop (ι := Nat) (fun j => j ≤ 255) (fun j => [(2, vP b2 0), (4, vP b4 0), (5, vP b5 0), (6, vP b6 0), (7, vP b7 0), (8, vP b8 0), (9, vP b9 0), (10, vI (254 - (j : Int)))]) (fun j => [.blk b6 65 (n64s (F j).1), .blk b7 65 (n64s (F j).2.1), .blk b8 65 (n64s (F j).2.2.1), .blk b9 65 (n64s (F j).2.2.2), .blk b5 65 (n64s x), .blk b4 23 (bys (List.replicate 32 0)), .blk b3 23 (bys p), .blk b2 23 (bys k)]) (fun j => 255 - j) 0 (by omega) (Sub.cons (s := 2) rfl (Sub.cons (s := 4) rfl (Sub.cons (s := 5) rfl (Sub.cons (s := 6) rfl (Sub.cons (s := 7) rfl (Sub.cons (s := 8) rfl (Sub.cons (s := 9) rfl (Sub.cons (s := 10) rfl (Sub.nil _))))))))) (fun w' H => by rw [F0]; exact H.pick (ks := [3, 2, 1, 0, 4, 5, 6, 7]) (by decide) rfl) ?_
  rintro j hp
  have okj := ok j
  obtain ⟨⟨ua0, ub0, uc0, ud0⟩, hFj⟩ : ∃ r, r = F j := ⟨_, rfl⟩
  rw [← hFj] at okj ⊢
  obtain ⟨oa0, ob0, oc0, od0⟩ := okj
  dsimp only at oa0 ob0 oc0 od0 ⊢
  have la0 := oa0.1
  have lb0 := ob0.1
  have lc0 := oc0.1
  have ld0 := od0.1
  refine VC_seq ?_
  refine VC_seq ?_
  refine VC_region ?_
  refine vl_v (q_move rfl) rfl ?_
  refine vl_v (q_geq_k (q := 0) Try.underlying3 rfl rfl) rfl ?_
  refine vl_nil ?_
  refine (th_n ?_)
  refine VC_cond rfl (fun ht29 => ?_) (fun ht29 => ?_)
  · skip
    have ht29 := of_decide_eq_true ht29
    obtain ⟨i, hi⟩ : ∃ i : Nat, i = 254 - j := ⟨_, rfl⟩
    have hij : (254 - (j : Int)) = (i : Int) := by omega
    have hi254 : i ≤ 254 := by omega
    rw [hij]
    obtain ⟨s, hs⟩ : ∃ s, sbit k i = s := ⟨_, rfl⟩
    refine VC_skip ?_
    refine (th_n ?_)
    refine VC_seq ?_
    refine VC_block ?_
    refine VC_seq ?_
    refine VC_seq ?_
    refine VC_region ?_
    refine vl_v (q_loads 7 Try.underlying23 rfl rfl rfl sz23 (by simp only [zb, zu, zw, zi, n64s_length, za]; omega)) rfl ?_
    refine vl_v (q_move rfl) rfl ?_
    refine vl_v (q_callV Try.func35 rfl rfl rfl (fun w1 H1 => rbit_calls k i s hs hk hi254 w1)) rfl ?_
    refine vl_nil ?_
    refine (th_n ?_)
    refine VC_cond rfl (fun ht34 => ?_) (fun ht34 => ?_)
    · skip
      obtain ⟨ua, rfl⟩ : ∃ r, r = ub0 := ⟨_, rfl⟩
      obtain ⟨ub, rfl⟩ : ∃ r, r = ua0 := ⟨_, rfl⟩
      obtain ⟨uc, rfl⟩ : ∃ r, r = ud0 := ⟨_, rfl⟩
      obtain ⟨ud, rfl⟩ : ∃ r, r = uc0 := ⟨_, rfl⟩
      have hq1 : sw (sbit k i) (F j) = (ua, ub, uc, ud) := by rw [hs, ht34, ← hFj]; rfl
      obtain ⟨oa, ob, oc, od⟩ : all4 digN (ua, ub, uc, ud) := by rw [← hq1]; exact sw_all _ (ok j)
      simp only at oa ob oc od
      refine VC_seq ?_
      refine VC_region ?_
      refine vl_v (q_loads 0 Try.underlying65 rfl rfl rfl sz65 (by simp only [zb, zu, zw, zi, n64s_length, za]; omega)) rfl ?_
      refine l_allocA zr65 rfl ?_
      intro b11
      simp only [u64s_rep]
      refine l_storeA 0 rfl rfl rfl sz65 (by simp only [zb, zu, zw, zi, n64s_length, za]; omega) (by with_reducible first | exact bys_one _ | exact u32s_one _ | exact u64s_one _ | exact i64s_one _ | exact n64s_one _ | assumption) (by simp only [zs, zr, zm, za, zb, zu, zw, zi, n64s_length, zt, zd, zc, zn, *] <;> first | done | omega) ?_
      simp only [List.set_cons_zero, List.set_cons_succ]
      refine vl_nil ?_
      refine (th_n ?_)
      refine VC_seq ?_
      refine VC_region ?_
      refine vl_v (q_loads 2 Try.underlying65 rfl rfl rfl sz65 (by simp only [zb, zu, zw, zi, n64s_length, za]; omega)) rfl ?_
      refine l_storeA 1 rfl rfl rfl sz65 (by simp only [zb, zu, zw, zi, n64s_length, za]; omega) (by with_reducible first | exact bys_one _ | exact u32s_one _ | exact u64s_one _ | exact i64s_one _ | exact n64s_one _ | assumption) (by simp only [zb, zu, zw, zi, n64s_length, za]; omega) ?_
      simp only [List.set_cons_zero, List.set_cons_succ]
      refine vl_nil ?_
      refine (th_n ?_)
      refine VC_seq ?_
      refine VC_region ?_
      refine vl_v (q_loads 0 Try.underlying65 rfl rfl rfl sz65 (by simp only [zb, zu, zw, zi, n64s_length, za]; omega)) rfl ?_
      refine l_storeA 2 rfl rfl rfl sz65 (by simp only [zb, zu, zw, zi, n64s_length, za]; omega) (by with_reducible first | exact bys_one _ | exact u32s_one _ | exact u64s_one _ | exact i64s_one _ | exact n64s_one _ | assumption) (by simp only [zb, zu, zw, zi, n64s_length, za]; omega) ?_
      simp only [List.set_cons_zero, List.set_cons_succ]
      refine vl_nil ?_
      refine (th_n ?_)
      refine VC_seq ?_
      refine VC_region ?_
      refine vl_v (q_loads 3 Try.underlying65 rfl rfl rfl sz65 (by simp only [zb, zu, zw, zi, n64s_length, za]; omega)) rfl ?_
      refine l_storeA 0 rfl rfl rfl sz65 (by simp only [zb, zu, zw, zi, n64s_length, za]; omega) (by with_reducible first | exact bys_one _ | exact u32s_one _ | exact u64s_one _ | exact i64s_one _ | exact n64s_one _ | assumption) (by simp only [zb, zu, zw, zi, n64s_length, za]; omega) ?_
      simp only [List.set_cons_zero, List.set_cons_succ]
      refine vl_nil ?_
      refine (th_n ?_)
      refine VC_seq ?_
      refine VC_region ?_
      refine vl_v (q_loads 4 Try.underlying65 rfl rfl rfl sz65 (by simp only [zb, zu, zw, zi, n64s_length, za]; omega)) rfl ?_
      refine l_storeA 3 rfl rfl rfl sz65 (by simp only [zb, zu, zw, zi, n64s_length, za]; omega) (by with_reducible first | exact bys_one _ | exact u32s_one _ | exact u64s_one _ | exact i64s_one _ | exact n64s_one _ | assumption) (by simp only [zb, zu, zw, zi, n64s_length, za]; omega) ?_
      simp only [List.set_cons_zero, List.set_cons_succ]
      refine vl_nil ?_
      refine (th_n ?_)
      refine VC_region ?_
      refine vl_v (q_loads 0 Try.underlying65 rfl rfl rfl sz65 (by simp only [zb, zu, zw, zi, n64s_length, za]; omega)) rfl ?_
      refine l_storeA 4 rfl rfl rfl sz65 (by simp only [zb, zu, zw, zi, n64s_length, za]; omega) (by with_reducible first | exact bys_one _ | exact u32s_one _ | exact u64s_one _ | exact i64s_one _ | exact n64s_one _ | assumption) (by simp only [zb, zu, zw, zi, n64s_length, za]; omega) ?_
      simp only [List.set_cons_zero, List.set_cons_succ]
      refine vl_nil ?_
      refine (th_n ?_)
      refine VC_seq ?_
      obtain ⟨e, he⟩ : ∃ r, raddL ua uc = r := ⟨_, rfl⟩
      have oe : digN e := by rw [← he]; exact raddL_dig oa oc
      have le := oe.1
      refine VC_region ?_
      refine vl_v (q_loads 1 Try.underlying65 rfl rfl rfl sz65 (by simp only [zb, zu, zw, zi, n64s_length, za]; omega)) rfl ?_
      refine vl_v (q_loads 3 Try.underlying65 rfl rfl rfl sz65 (by simp only [zb, zu, zw, zi, n64s_length, za]; omega)) rfl ?_
      refine vl_v (q_callV Try.func36 rfl rfl rfl (fun w1 H1 => he ▸ radd_calls ua uc oa oc w1)) rfl ?_
      refine l_allocA zr65 rfl ?_
      intro b12
      simp only [u64s_rep]
      refine l_storeA 0 rfl rfl rfl sz65 (by simp only [zb, zu, zw, zi, n64s_length, za]; omega) (by with_reducible first | exact bys_one _ | exact u32s_one _ | exact u64s_one _ | exact i64s_one _ | exact n64s_one _ | assumption) (by simp only [zs, zr, zm, za, zb, zu, zw, zi, n64s_length, zt, zd, zc, zn, *] <;> first | done | omega) ?_
      simp only [List.set_cons_zero, List.set_cons_succ]
      refine vl_nil ?_
      refine (th_n ?_)
      refine VC_seq ?_
      obtain ⟨f, hf⟩ : ∃ r, rsubL ua uc = r := ⟨_, rfl⟩
      have of : digN f := by rw [← hf]; exact rsubL_dig oa oc
      have lf := of.1
      refine VC_region ?_
      refine vl_v (q_loads 2 Try.underlying65 rfl rfl rfl sz65 (by simp only [zb, zu, zw, zi, n64s_length, za]; omega)) rfl ?_
      refine vl_v (q_loads 4 Try.underlying65 rfl rfl rfl sz65 (by simp only [zb, zu, zw, zi, n64s_length, za]; omega)) rfl ?_
      refine vl_v (q_callV Try.func37 rfl rfl rfl (fun w1 H1 => hf ▸ rsub_calls ua uc oa oc w1)) rfl ?_
      refine l_allocA zr65 rfl ?_
      intro b13
      simp only [u64s_rep]
      refine l_storeA 0 rfl rfl rfl sz65 (by simp only [zb, zu, zw, zi, n64s_length, za]; omega) (by with_reducible first | exact bys_one _ | exact u32s_one _ | exact u64s_one _ | exact i64s_one _ | exact n64s_one _ | assumption) (by simp only [zs, zr, zm, za, zb, zu, zw, zi, n64s_length, zt, zd, zc, zn, *] <;> first | done | omega) ?_
      simp only [List.set_cons_zero, List.set_cons_succ]
      refine vl_nil ?_
      refine (th_n ?_)
      refine VC_seq ?_
      obtain ⟨u, hu⟩ : ∃ r, rmulL e e = r := ⟨_, rfl⟩
      have ou : digN u := by rw [← hu]; exact rmulL_dig oe oe
      have lu := ou.1
      refine VC_region ?_
      refine vl_v (q_loads 1 Try.underlying65 rfl rfl rfl sz65 (by simp only [zb, zu, zw, zi, n64s_length, za]; omega)) rfl ?_
      refine vl_v (q_loads 1 Try.underlying65 rfl rfl rfl sz65 (by simp only [zb, zu, zw, zi, n64s_length, za]; omega)) rfl ?_
      refine vl_v (q_callV Try.func38 rfl rfl rfl (fun w1 H1 => hu ▸ rmul_calls e e oe oe w1)) rfl ?_
      refine l_allocA zr65 rfl ?_
      intro b14
      simp only [u64s_rep]
      refine l_storeA 0 rfl rfl rfl sz65 (by simp only [zb, zu, zw, zi, n64s_length, za]; omega) (by with_reducible first | exact bys_one _ | exact u32s_one _ | exact u64s_one _ | exact i64s_one _ | exact n64s_one _ | assumption) (by simp only [zs, zr, zm, za, zb, zu, zw, zi, n64s_length, zt, zd, zc, zn, *] <;> first | done | omega) ?_
      simp only [List.set_cons_zero, List.set_cons_succ]
      refine vl_nil ?_
      refine (th_n ?_)
      refine VC_seq ?_
      obtain ⟨v, hv⟩ : ∃ r, rmulL f f = r := ⟨_, rfl⟩
      have ov : digN v := by rw [← hv]; exact rmulL_dig of of
      have lv := ov.1
      refine VC_region ?_
      refine vl_v (q_loads 1 Try.underlying65 rfl rfl rfl sz65 (by simp only [zb, zu, zw, zi, n64s_length, za]; omega)) rfl ?_
      refine vl_v (q_loads 1 Try.underlying65 rfl rfl rfl sz65 (by simp only [zb, zu, zw, zi, n64s_length, za]; omega)) rfl ?_
      refine vl_v (q_callV Try.func38 rfl rfl rfl (fun w1 H1 => hv ▸ rmul_calls f f of of w1)) rfl ?_
      refine l_allocA zr65 rfl ?_
      intro b15
      simp only [u64s_rep]
      refine l_storeA 0 rfl rfl rfl sz65 (by simp only [zb, zu, zw, zi, n64s_length, za]; omega) (by with_reducible first | exact bys_one _ | exact u32s_one _ | exact u64s_one _ | exact i64s_one _ | exact n64s_one _ | assumption) (by simp only [zs, zr, zm, za, zb, zu, zw, zi, n64s_length, zt, zd, zc, zn, *] <;> first | done | omega) ?_
      simp only [List.set_cons_zero, List.set_cons_succ]
      refine vl_nil ?_
      refine (th_n ?_)
      refine VC_seq ?_
      obtain ⟨ww, hww⟩ : ∃ r, rsubL u v = r := ⟨_, rfl⟩
      have oww : digN ww := by rw [← hww]; exact rsubL_dig ou ov
      have lww := oww.1
      refine VC_region ?_
      refine vl_v (q_loads 1 Try.underlying65 rfl rfl rfl sz65 (by simp only [zb, zu, zw, zi, n64s_length, za]; omega)) rfl ?_
      refine vl_v (q_loads 0 Try.underlying65 rfl rfl rfl sz65 (by simp only [zb, zu, zw, zi, n64s_length, za]; omega)) rfl ?_
      refine vl_v (q_callV Try.func37 rfl rfl rfl (fun w1 H1 => hww ▸ rsub_calls u v ou ov w1)) rfl ?_
      refine l_allocA zr65 rfl ?_
      intro b16
      simp only [u64s_rep]
      refine l_storeA 0 rfl rfl rfl sz65 (by simp only [zb, zu, zw, zi, n64s_length, za]; omega) (by with_reducible first | exact bys_one _ | exact u32s_one _ | exact u64s_one _ | exact i64s_one _ | exact n64s_one _ | assumption) (by simp only [zs, zr, zm, za, zb, zu, zw, zi, n64s_length, zt, zd, zc, zn, *] <;> first | done | omega) ?_
      simp only [List.set_cons_zero, List.set_cons_succ]
      refine vl_nil ?_
      refine (th_n ?_)
      refine VC_seq ?_
      obtain ⟨s1, hs1⟩ : ∃ r, rsubL ub ud = r := ⟨_, rfl⟩
      have os1 : digN s1 := by rw [← hs1]; exact rsubL_dig ob od
      have ls1 := os1.1
      obtain ⟨y, hy⟩ : ∃ r, rmulL s1 e = r := ⟨_, rfl⟩
      have oy : digN y := by rw [← hy]; exact rmulL_dig os1 oe
      have ly := oy.1
      refine VC_drawM 6 [[], [], [0, 1], [], [2, 3], [], [5, 4, 0, 1, 2, 3]] [[], [], [0, 1], [], [0, 1, 2, 3], [], [0, 1, 2, 3, 4, 5]] rfl (by kernel_rfl) ?_
      refine qm_v (fun xs hx => q_loads 7 Try.underlying65 rfl rfl rfl sz65 (by simp only [zb, zu, zw, zi, n64s_length, za]; omega)) ?_
      refine qm_v (fun xs hx => q_loads 9 Try.underlying65 rfl rfl rfl sz65 (by simp only [zb, zu, zw, zi, n64s_length, za]; omega)) ?_
      refine qm_v (fun xs hx => q_callV Try.func37 rfl rfl rfl (fun w1 H1 => hs1 ▸ rsub_calls ub ud ob od w1)) ?_
      refine qm_v (fun xs hx => q_loads 4 Try.underlying65 rfl rfl rfl sz65 (by simp only [zb, zu, zw, zi, n64s_length, za]; omega)) ?_
      refine qm_v (fun xs hx => q_callV Try.func38 rfl rfl rfl (fun w1 H1 => hy ▸ rmul_calls s1 e os1 oe w1)) ?_
      refine qm_a (fun xs hx => q_alloc zr65 rfl) ?_
      refine qm_end ?_
      intro xs hx
      obtain ⟨⟨b17, e17⟩, _⟩ := hx
      simp only [e17]
      simp only [resT, nRow, nBlk, nRowT, tupAt_0, List.append_assoc, List.nil_append, List.append_nil, List.cons_append, List.singleton_append, e17]
      refine VL.keep (Sub.cons (s := 2) rfl (Sub.cons (s := 4) rfl (Sub.cons (s := 5) rfl (Sub.cons (s := 6) rfl (Sub.cons (s := 7) rfl (Sub.cons (s := 8) rfl (Sub.cons (s := 9) rfl (Sub.cons (s := 10) rfl (Sub.cons (s := 29) rfl (Sub.cons (s := 34) rfl (Sub.cons (s := 11) rfl (Sub.cons (s := 12) rfl (Sub.cons (s := 13) rfl (Sub.cons (s := 14) rfl (Sub.cons (s := 15) rfl (Sub.cons (s := 16) rfl (Sub.cons (s := 60) rfl (Sub.cons (s := 17) rfl (Sub.nil _))))))))))))))))))) ?_
      refine l_storeA 0 rfl rfl rfl sz65 (by simp only [zb, zu, zw, zi, n64s_length, za]; omega) (by with_reducible first | exact bys_one _ | exact u32s_one _ | exact u64s_one _ | exact i64s_one _ | exact n64s_one _ | assumption) (by rfl) ?_
      simp only [List.set_cons_zero, List.set_cons_succ]
      refine vl_nil ?_
      refine (qn_n (th_n ?_))
      refine VC_seq ?_
      obtain ⟨s2, hs2⟩ : ∃ r, raddL ub ud = r := ⟨_, rfl⟩
      have os2 : digN s2 := by rw [← hs2]; exact raddL_dig ob od
      have ls2 := os2.1
      obtain ⟨zz, hzz⟩ : ∃ r, rmulL s2 f = r := ⟨_, rfl⟩
      have ozz : digN zz := by rw [← hzz]; exact rmulL_dig os2 of
      have lzz := ozz.1
      refine VC_drawM 6 [[], [], [0, 1], [], [2, 3], [], [5, 4, 0, 1, 2, 3]] [[], [], [0, 1], [], [0, 1, 2, 3], [], [0, 1, 2, 3, 4, 5]] rfl (by kernel_rfl) ?_
      refine qm_v (fun xs hx => q_loads 8 Try.underlying65 rfl rfl rfl sz65 (by simp only [zb, zu, zw, zi, n64s_length, za]; omega)) ?_
      refine qm_v (fun xs hx => q_loads 10 Try.underlying65 rfl rfl rfl sz65 (by simp only [zb, zu, zw, zi, n64s_length, za]; omega)) ?_
      refine qm_v (fun xs hx => q_callV Try.func36 rfl rfl rfl (fun w1 H1 => hs2 ▸ radd_calls ub ud ob od w1)) ?_
      refine qm_v (fun xs hx => q_loads 4 Try.underlying65 rfl rfl rfl sz65 (by simp only [zb, zu, zw, zi, n64s_length, za]; omega)) ?_
      refine qm_v (fun xs hx => q_callV Try.func38 rfl rfl rfl (fun w1 H1 => hzz ▸ rmul_calls s2 f os2 of w1)) ?_
      refine qm_a (fun xs hx => q_alloc zr65 rfl) ?_
      refine qm_end ?_
      intro xs hx
      obtain ⟨⟨b18, e18⟩, _⟩ := hx
      simp only [e18]
      simp only [resT, nRow, nBlk, nRowT, tupAt_0, List.append_assoc, List.nil_append, List.append_nil, List.cons_append, List.singleton_append, e18]
      refine VL.keep (Sub.cons (s := 2) rfl (Sub.cons (s := 4) rfl (Sub.cons (s := 5) rfl (Sub.cons (s := 6) rfl (Sub.cons (s := 7) rfl (Sub.cons (s := 8) rfl (Sub.cons (s := 9) rfl (Sub.cons (s := 10) rfl (Sub.cons (s := 29) rfl (Sub.cons (s := 34) rfl (Sub.cons (s := 11) rfl (Sub.cons (s := 12) rfl (Sub.cons (s := 13) rfl (Sub.cons (s := 14) rfl (Sub.cons (s := 15) rfl (Sub.cons (s := 16) rfl (Sub.cons (s := 17) rfl (Sub.cons (s := 65) rfl (Sub.cons (s := 18) rfl (Sub.nil _)))))))))))))))))))) ?_
      refine l_storeA 0 rfl rfl rfl sz65 (by simp only [zb, zu, zw, zi, n64s_length, za]; omega) (by with_reducible first | exact bys_one _ | exact u32s_one _ | exact u64s_one _ | exact i64s_one _ | exact n64s_one _ | assumption) (by rfl) ?_
      simp only [List.set_cons_zero, List.set_cons_succ]
      refine vl_nil ?_
      refine (qn_n (th_n ?_))
      refine VC_seq ?_
      obtain ⟨mo, hmo⟩ : ∃ r, raddL y zz = r := ⟨_, rfl⟩
      have omo : digN mo := by rw [← hmo]; exact raddL_dig oy ozz
      have lmo := omo.1
      refine VC_region ?_
      refine vl_v (q_loads 1 Try.underlying65 rfl rfl rfl sz65 (by simp only [zb, zu, zw, zi, n64s_length, za]; omega)) rfl ?_
      refine vl_v (q_loads 0 Try.underlying65 rfl rfl rfl sz65 (by simp only [zb, zu, zw, zi, n64s_length, za]; omega)) rfl ?_
      refine vl_v (q_callV Try.func36 rfl rfl rfl (fun w1 H1 => hmo ▸ radd_calls y zz oy ozz w1)) rfl ?_
      refine l_allocA zr65 rfl ?_
      intro b19
      simp only [u64s_rep]
      refine l_storeA 0 rfl rfl rfl sz65 (by simp only [zb, zu, zw, zi, n64s_length, za]; omega) (by with_reducible first | exact bys_one _ | exact u32s_one _ | exact u64s_one _ | exact i64s_one _ | exact n64s_one _ | assumption) (by simp only [zs, zr, zm, za, zb, zu, zw, zi, n64s_length, zt, zd, zc, zn, *] <;> first | done | omega) ?_
      simp only [List.set_cons_zero, List.set_cons_succ]
      refine vl_nil ?_
      refine (th_n ?_)
      refine VC_seq ?_
      obtain ⟨ls, hls⟩ : ∃ r, rsubL y zz = r := ⟨_, rfl⟩
      have ols : digN ls := by rw [← hls]; exact rsubL_dig oy ozz
      have lls := ols.1
      refine VC_region ?_
      refine vl_v (q_loads 2 Try.underlying65 rfl rfl rfl sz65 (by simp only [zb, zu, zw, zi, n64s_length, za]; omega)) rfl ?_
      refine vl_v (q_loads 1 Try.underlying65 rfl rfl rfl sz65 (by simp only [zb, zu, zw, zi, n64s_length, za]; omega)) rfl ?_
      refine vl_v (q_callV Try.func37 rfl rfl rfl (fun w1 H1 => hls ▸ rsub_calls y zz oy ozz w1)) rfl ?_
      refine l_allocA zr65 rfl ?_
      intro b20
      simp only [u64s_rep]
      refine l_storeA 0 rfl rfl rfl sz65 (by simp only [zb, zu, zw, zi, n64s_length, za]; omega) (by with_reducible first | exact bys_one _ | exact u32s_one _ | exact u64s_one _ | exact i64s_one _ | exact n64s_one _ | assumption) (by simp only [zs, zr, zm, za, zb, zu, zw, zi, n64s_length, zt, zd, zc, zn, *] <;> first | done | omega) ?_
      simp only [List.set_cons_zero, List.set_cons_succ]
      refine vl_nil ?_
      refine (th_n ?_)
      refine VC_seq ?_
      obtain ⟨nb, hnb⟩ : ∃ r, rmulL mo mo = r := ⟨_, rfl⟩
      have onb : digN nb := by rw [← hnb]; exact rmulL_dig omo omo
      have lnb := onb.1
      refine VC_region ?_
      refine vl_v (q_loads 1 Try.underlying65 rfl rfl rfl sz65 (by simp only [zb, zu, zw, zi, n64s_length, za]; omega)) rfl ?_
      refine vl_v (q_loads 1 Try.underlying65 rfl rfl rfl sz65 (by simp only [zb, zu, zw, zi, n64s_length, za]; omega)) rfl ?_
      refine vl_v (q_callV Try.func38 rfl rfl rfl (fun w1 H1 => hnb ▸ rmul_calls mo mo omo omo w1)) rfl ?_
      refine l_storeA 11 rfl rfl rfl sz65 (by simp only [zb, zu, zw, zi, n64s_length, za]; omega) (by with_reducible first | exact bys_one _ | exact u32s_one _ | exact u64s_one _ | exact i64s_one _ | exact n64s_one _ | assumption) (by simp only [zb, zu, zw, zi, n64s_length, za]; omega) ?_
      simp only [List.set_cons_zero, List.set_cons_succ]
      refine vl_nil ?_
      refine (th_n ?_)
      refine VC_seq ?_
      obtain ⟨l2, hl2⟩ : ∃ r, rmulL ls ls = r := ⟨_, rfl⟩
      have ol2 : digN l2 := by rw [← hl2]; exact rmulL_dig ols ols
      have ll2 := ol2.1
      obtain ⟨nd, hnd⟩ : ∃ r, rmulL x l2 = r := ⟨_, rfl⟩
      have ond : digN nd := by rw [← hnd]; exact rmulL_dig ox ol2
      have lnd := ond.1
      refine VC_drawV 4 [[], [], [], [1, 2], [0, 3], [4, 0, 1, 2, 3]] [[], [], [], [1, 2], [0, 1, 2, 3], [0, 1, 2, 3, 4]] rfl (by kernel_rfl) ?_
      refine qv_v (q_loads 14 Try.underlying65 rfl rfl rfl sz65 (by simp only [zb, zu, zw, zi, n64s_length, za]; omega)) ?_
      refine qv_v (q_loads 0 Try.underlying65 rfl rfl rfl sz65 (by simp only [zb, zu, zw, zi, n64s_length, za]; omega)) ?_
      refine qv_v (q_loads 0 Try.underlying65 rfl rfl rfl sz65 (by simp only [zb, zu, zw, zi, n64s_length, za]; omega)) ?_
      refine qv_v (q_callV Try.func38 rfl rfl rfl (fun w1 H1 => hl2 ▸ rmul_calls ls ls ols ols w1)) ?_
      refine qv_end ?_
      refine VL.keep (Sub.cons (s := 2) rfl (Sub.cons (s := 4) rfl (Sub.cons (s := 5) rfl (Sub.cons (s := 6) rfl (Sub.cons (s := 7) rfl (Sub.cons (s := 8) rfl (Sub.cons (s := 9) rfl (Sub.cons (s := 10) rfl (Sub.cons (s := 29) rfl (Sub.cons (s := 34) rfl (Sub.cons (s := 11) rfl (Sub.cons (s := 12) rfl (Sub.cons (s := 13) rfl (Sub.cons (s := 14) rfl (Sub.cons (s := 15) rfl (Sub.cons (s := 16) rfl (Sub.cons (s := 17) rfl (Sub.cons (s := 18) rfl (Sub.cons (s := 19) rfl (Sub.cons (s := 20) rfl (Sub.cons (s := 75) rfl (Sub.cons (s := 78) rfl (Sub.nil _))))))))))))))))))))))) ?_
      refine vl_v (q_callV Try.func38 rfl rfl rfl (fun w1 H1 => hnd ▸ rmul_calls x l2 ox ol2 w1)) rfl ?_
      refine l_storeA 13 rfl rfl rfl sz65 (by simp only [zb, zu, zw, zi, n64s_length, za]; omega) (by with_reducible first | exact bys_one _ | exact u32s_one _ | exact u64s_one _ | exact i64s_one _ | exact n64s_one _ | assumption) (by simp only [zb, zu, zw, zi, n64s_length, za]; omega) ?_
      simp only [List.set_cons_zero, List.set_cons_succ]
      refine vl_nil ?_
      refine (qn_n (th_n ?_))
      refine VC_seq ?_
      obtain ⟨na, hna⟩ : ∃ r, rmulL u v = r := ⟨_, rfl⟩
      have ona : digN na := by rw [← hna]; exact rmulL_dig ou ov
      have lna := ona.1
      refine VC_region ?_
      refine vl_v (q_loads 6 Try.underlying65 rfl rfl rfl sz65 (by simp only [zb, zu, zw, zi, n64s_length, za]; omega)) rfl ?_
      refine vl_v (q_loads 5 Try.underlying65 rfl rfl rfl sz65 (by simp only [zb, zu, zw, zi, n64s_length, za]; omega)) rfl ?_
      refine vl_v (q_callV Try.func38 rfl rfl rfl (fun w1 H1 => hna ▸ rmul_calls u v ou ov w1)) rfl ?_
      refine l_storeA 10 rfl rfl rfl sz65 (by simp only [zb, zu, zw, zi, n64s_length, za]; omega) (by with_reducible first | exact bys_one _ | exact u32s_one _ | exact u64s_one _ | exact i64s_one _ | exact n64s_one _ | assumption) (by simp only [zb, zu, zw, zi, n64s_length, za]; omega) ?_
      simp only [List.set_cons_zero, List.set_cons_succ]
      refine vl_nil ?_
      refine (th_n ?_)
      refine VC_seq ?_
      obtain ⟨g1, hg1⟩ : ∃ r, rmulL gN ww = r := ⟨_, rfl⟩
      have og1 : digN g1 := by rw [← hg1]; exact rmulL_dig og oww
      have lg1 := og1.1
      obtain ⟨g2, hg2⟩ : ∃ r, raddL u g1 = r := ⟨_, rfl⟩
      have og2 : digN g2 := by rw [← hg2]; exact raddL_dig ou og1
      have lg2 := og2.1
      obtain ⟨nc, hnc⟩ : ∃ r, rmulL ww g2 = r := ⟨_, rfl⟩
      have onc : digN nc := by rw [← hnc]; exact rmulL_dig oww og2
      have lnc := onc.1
      refine VC_drawV 6 [[], [], [], [], [2, 3], [1, 4], [0, 5], [6, 0, 1, 2, 3, 4, 5]] [[], [], [], [], [2, 3], [1, 2, 3, 4], [0, 1, 2, 3, 4, 5], [0, 1, 2, 3, 4, 5, 6]] rfl (by kernel_rfl) ?_
      refine qv_v (q_loads 4 Try.underlying65 rfl rfl rfl sz65 (by simp only [zb, zu, zw, zi, n64s_length, za]; omega)) ?_
      refine qv_v (q_loads 6 Try.underlying65 rfl rfl rfl sz65 (by simp only [zb, zu, zw, zi, n64s_length, za]; omega)) ?_
      refine qv_v (q_build (c' := n64s gN) rfl (by kernel_rfl)) ?_
      refine qv_v (q_loads 4 Try.underlying65 rfl rfl rfl sz65 (by simp only [zb, zu, zw, zi, n64s_length, za]; omega)) ?_
      refine qv_v (q_callV Try.func38 rfl rfl rfl (fun w1 H1 => hg1 ▸ rmul_calls gN ww og oww w1)) ?_
      refine qv_v (q_callV Try.func36 rfl rfl rfl (fun w1 H1 => hg2 ▸ radd_calls u g1 ou og1 w1)) ?_
      refine qv_end ?_
      refine VL.keep (Sub.cons (s := 2) rfl (Sub.cons (s := 4) rfl (Sub.cons (s := 5) rfl (Sub.cons (s := 6) rfl (Sub.cons (s := 7) rfl (Sub.cons (s := 8) rfl (Sub.cons (s := 9) rfl (Sub.cons (s := 10) rfl (Sub.cons (s := 29) rfl (Sub.cons (s := 34) rfl (Sub.cons (s := 11) rfl (Sub.cons (s := 12) rfl (Sub.cons (s := 13) rfl (Sub.cons (s := 14) rfl (Sub.cons (s := 15) rfl (Sub.cons (s := 16) rfl (Sub.cons (s := 17) rfl (Sub.cons (s := 18) rfl (Sub.cons (s := 19) rfl (Sub.cons (s := 20) rfl (Sub.cons (s := 83) rfl (Sub.cons (s := 88) rfl (Sub.nil _))))))))))))))))))))))) ?_
      refine vl_v (q_callV Try.func38 rfl rfl rfl (fun w1 H1 => hnc ▸ rmul_calls ww g2 oww og2 w1)) rfl ?_
      refine l_storeA 12 rfl rfl rfl sz65 (by simp only [zb, zu, zw, zi, n64s_length, za]; omega) (by with_reducible first | exact bys_one _ | exact u32s_one _ | exact u64s_one _ | exact i64s_one _ | exact n64s_one _ | assumption) (by simp only [zb, zu, zw, zi, n64s_length, za]; omega) ?_
      simp only [List.set_cons_zero, List.set_cons_succ]
      refine vl_nil ?_
      refine (qn_n (th_n ?_))
      refine VC_seq ?_
      have hst : stepC raddL rsubL rmulL x gN (ua, ub, uc, ud) = (na, nb, nc, nd) := by rw [← hna, ← hnb, ← hnc, ← hnd, ← hg2, ← hg1, ← hl2, ← hww, ← hmo, ← hls, ← hu, ← hv, ← hy, ← hzz, ← hs1, ← hs2, ← he, ← hf]; rfl
      refine VC_region ?_
      refine vl_v (q_loads 17 Try.underlying23 rfl rfl rfl sz23 (by simp only [zb, zu, zw, zi, n64s_length, za]; omega)) rfl ?_
      refine vl_v (q_move rfl) rfl ?_
      refine vl_v (q_callV Try.func35 rfl rfl rfl (fun w1 H1 => rbit_calls k i s hs hk hi254 w1)) rfl ?_
      refine vl_nil ?_
      refine (th_n ?_)
      refine VC_cond rfl (fun ht92 => ?_) (fun ht92 => ?_)
      · skip
        have hnext : F (j + 1) = (nb, na, nd, nc) := by rw [Fs j, ← hi, hq1, hst, hs, ht92]; rfl
        refine VC_seq ?_
        refine VC_region ?_
        refine vl_v (q_loads 10 Try.underlying65 rfl rfl rfl sz65 (by simp only [zb, zu, zw, zi, n64s_length, za]; omega)) rfl ?_
        refine l_allocA zr65 rfl ?_
        intro b21
        simp only [u64s_rep]
        refine l_storeA 0 rfl rfl rfl sz65 (by simp only [zb, zu, zw, zi, n64s_length, za]; omega) (by with_reducible first | exact bys_one _ | exact u32s_one _ | exact u64s_one _ | exact i64s_one _ | exact n64s_one _ | assumption) (by simp only [zs, zr, zm, za, zb, zu, zw, zi, n64s_length, zt, zd, zc, zn, *] <;> first | done | omega) ?_
        simp only [List.set_cons_zero, List.set_cons_succ]
        refine vl_nil ?_
        refine (th_n ?_)
        refine VC_seq ?_
        refine VC_region ?_
        refine vl_v (q_loads 12 Try.underlying65 rfl rfl rfl sz65 (by simp only [zb, zu, zw, zi, n64s_length, za]; omega)) rfl ?_
        refine l_storeA 11 rfl rfl rfl sz65 (by simp only [zb, zu, zw, zi, n64s_length, za]; omega) (by with_reducible first | exact bys_one _ | exact u32s_one _ | exact u64s_one _ | exact i64s_one _ | exact n64s_one _ | assumption) (by simp only [zb, zu, zw, zi, n64s_length, za]; omega) ?_
        simp only [List.set_cons_zero, List.set_cons_succ]
        refine vl_nil ?_
        refine (th_n ?_)
        refine VC_seq ?_
        refine VC_region ?_
        refine vl_v (q_loads 0 Try.underlying65 rfl rfl rfl sz65 (by simp only [zb, zu, zw, zi, n64s_length, za]; omega)) rfl ?_
        refine l_storeA 12 rfl rfl rfl sz65 (by simp only [zb, zu, zw, zi, n64s_length, za]; omega) (by with_reducible first | exact bys_one _ | exact u32s_one _ | exact u64s_one _ | exact i64s_one _ | exact n64s_one _ | assumption) (by simp only [zb, zu, zw, zi, n64s_length, za]; omega) ?_
        simp only [List.set_cons_zero, List.set_cons_succ]
        refine vl_nil ?_
        refine (th_n ?_)
        refine VC_seq ?_
        refine VC_region ?_
        refine vl_v (q_loads 13 Try.underlying65 rfl rfl rfl sz65 (by simp only [zb, zu, zw, zi, n64s_length, za]; omega)) rfl ?_
        refine l_storeA 0 rfl rfl rfl sz65 (by simp only [zb, zu, zw, zi, n64s_length, za]; omega) (by with_reducible first | exact bys_one _ | exact u32s_one _ | exact u64s_one _ | exact i64s_one _ | exact n64s_one _ | assumption) (by simp only [zb, zu, zw, zi, n64s_length, za]; omega) ?_
        simp only [List.set_cons_zero, List.set_cons_succ]
        refine vl_nil ?_
        refine (th_n ?_)
        refine VC_seq ?_
        refine VC_region ?_
        refine vl_v (q_loads 14 Try.underlying65 rfl rfl rfl sz65 (by simp only [zb, zu, zw, zi, n64s_length, za]; omega)) rfl ?_
        refine l_storeA 13 rfl rfl rfl sz65 (by simp only [zb, zu, zw, zi, n64s_length, za]; omega) (by with_reducible first | exact bys_one _ | exact u32s_one _ | exact u64s_one _ | exact i64s_one _ | exact n64s_one _ | assumption) (by simp only [zb, zu, zw, zi, n64s_length, za]; omega) ?_
        simp only [List.set_cons_zero, List.set_cons_succ]
        refine vl_nil ?_
        refine (th_n ?_)
        refine VC_region ?_
        refine vl_v (q_loads 0 Try.underlying65 rfl rfl rfl sz65 (by simp only [zb, zu, zw, zi, n64s_length, za]; omega)) rfl ?_
        refine l_storeA 14 rfl rfl rfl sz65 (by simp only [zb, zu, zw, zi, n64s_length, za]; omega) (by with_reducible first | exact bys_one _ | exact u32s_one _ | exact u64s_one _ | exact i64s_one _ | exact n64s_one _ | assumption) (by simp only [zb, zu, zw, zi, n64s_length, za]; omega) ?_
        simp only [List.set_cons_zero, List.set_cons_succ]
        refine vl_nil ?_
        refine (bl_n (th_n ?_))
        refine VC_region ?_
        refine vl_v (q_move rfl) rfl ?_
        refine vl_v (q_sub_i rfl rfl (by omega) (by omega)) rfl ?_
        refine vl_v (q_assign rfl) rfl ?_
        refine vl_nil ?_
        refine (th_n ?_)
        refine ⟨j + 1, by omega, by omega, (Sub.cons (s := 2) rfl (Sub.cons (s := 4) rfl (Sub.cons (s := 5) rfl (Sub.cons (s := 6) rfl (Sub.cons (s := 7) rfl (Sub.cons (s := 8) rfl (Sub.cons (s := 9) rfl (Sub.cons (s := 10) (congrArg (fun x : Int => some (vI x)) (show ((i : Int) - 1 : Int) = 254 - ((j + 1 : Nat) : Int) by omega)) (Sub.nil _))))))))), fun w' H' => by rw [hnext]; first | exact St.pick H' (ks := [11, 12, 13, 14, 15, 16, 17, 18]) (by decide) rfl | exact St.pick H' (ks := [10, 11, 12, 13, 14, 15, 16, 17]) (by decide) rfl | exact St.pick H' (ks := [10, 11, 12, 13, 14, 15, 16, 17]) (by decide) rfl | exact St.pick H' (ks := [9, 10, 11, 12, 13, 14, 15, 16]) (by decide) rfl⟩
      · skip
        have hnext : F (j + 1) = (na, nb, nc, nd) := by rw [Fs j, ← hi, hq1, hst, hs, ht92]; rfl
        refine VC_skip ?_
        refine (bl_n (th_n ?_))
        refine VC_region ?_
        refine vl_v (q_move rfl) rfl ?_
        refine vl_v (q_sub_i rfl rfl (by omega) (by omega)) rfl ?_
        refine vl_v (q_assign rfl) rfl ?_
        refine vl_nil ?_
        refine (th_n ?_)
        refine ⟨j + 1, by omega, by omega, (Sub.cons (s := 2) rfl (Sub.cons (s := 4) rfl (Sub.cons (s := 5) rfl (Sub.cons (s := 6) rfl (Sub.cons (s := 7) rfl (Sub.cons (s := 8) rfl (Sub.cons (s := 9) rfl (Sub.cons (s := 10) (congrArg (fun x : Int => some (vI x)) (show ((i : Int) - 1 : Int) = 254 - ((j + 1 : Nat) : Int) by omega)) (Sub.nil _))))))))), fun w' H' => by rw [hnext]; first | exact St.pick H' (ks := [11, 12, 13, 14, 15, 16, 17, 18]) (by decide) rfl | exact St.pick H' (ks := [10, 11, 12, 13, 14, 15, 16, 17]) (by decide) rfl | exact St.pick H' (ks := [10, 11, 12, 13, 14, 15, 16, 17]) (by decide) rfl | exact St.pick H' (ks := [9, 10, 11, 12, 13, 14, 15, 16]) (by decide) rfl⟩
    · skip
      obtain ⟨ua, rfl⟩ : ∃ r, r = ua0 := ⟨_, rfl⟩
      obtain ⟨ub, rfl⟩ : ∃ r, r = ub0 := ⟨_, rfl⟩
      obtain ⟨uc, rfl⟩ : ∃ r, r = uc0 := ⟨_, rfl⟩
      obtain ⟨ud, rfl⟩ : ∃ r, r = ud0 := ⟨_, rfl⟩
      have hq1 : sw (sbit k i) (F j) = (ua, ub, uc, ud) := by rw [hs, ht34, ← hFj]; rfl
      obtain ⟨oa, ob, oc, od⟩ : all4 digN (ua, ub, uc, ud) := by rw [← hq1]; exact sw_all _ (ok j)
      simp only at oa ob oc od
      refine VC_skip ?_
      refine (th_n ?_)
      refine VC_seq ?_
      obtain ⟨e, he⟩ : ∃ r, raddL ua uc = r := ⟨_, rfl⟩
      have oe : digN e := by rw [← he]; exact raddL_dig oa oc
      have le := oe.1
      refine VC_region ?_
      refine vl_v (q_loads 0 Try.underlying65 rfl rfl rfl sz65 (by simp only [zb, zu, zw, zi, n64s_length, za]; omega)) rfl ?_
      refine vl_v (q_loads 2 Try.underlying65 rfl rfl rfl sz65 (by simp only [zb, zu, zw, zi, n64s_length, za]; omega)) rfl ?_
      refine vl_v (q_callV Try.func36 rfl rfl rfl (fun w1 H1 => he ▸ radd_calls ua uc oa oc w1)) rfl ?_
      refine l_allocA zr65 rfl ?_
      intro b12
      simp only [u64s_rep]
      refine l_storeA 0 rfl rfl rfl sz65 (by simp only [zb, zu, zw, zi, n64s_length, za]; omega) (by with_reducible first | exact bys_one _ | exact u32s_one _ | exact u64s_one _ | exact i64s_one _ | exact n64s_one _ | assumption) (by simp only [zs, zr, zm, za, zb, zu, zw, zi, n64s_length, zt, zd, zc, zn, *] <;> first | done | omega) ?_
      simp only [List.set_cons_zero, List.set_cons_succ]
      refine vl_nil ?_
      refine (th_n ?_)
      refine VC_seq ?_
      obtain ⟨f, hf⟩ : ∃ r, rsubL ua uc = r := ⟨_, rfl⟩
      have of : digN f := by rw [← hf]; exact rsubL_dig oa oc
      have lf := of.1
      refine VC_region ?_
      refine vl_v (q_loads 1 Try.underlying65 rfl rfl rfl sz65 (by simp only [zb, zu, zw, zi, n64s_length, za]; omega)) rfl ?_
      refine vl_v (q_loads 3 Try.underlying65 rfl rfl rfl sz65 (by simp only [zb, zu, zw, zi, n64s_length, za]; omega)) rfl ?_
      refine vl_v (q_callV Try.func37 rfl rfl rfl (fun w1 H1 => hf ▸ rsub_calls ua uc oa oc w1)) rfl ?_
      refine l_allocA zr65 rfl ?_
      intro b13
      simp only [u64s_rep]
      refine l_storeA 0 rfl rfl rfl sz65 (by simp only [zb, zu, zw, zi, n64s_length, za]; omega) (by with_reducible first | exact bys_one _ | exact u32s_one _ | exact u64s_one _ | exact i64s_one _ | exact n64s_one _ | assumption) (by simp only [zs, zr, zm, za, zb, zu, zw, zi, n64s_length, zt, zd, zc, zn, *] <;> first | done | omega) ?_
      simp only [List.set_cons_zero, List.set_cons_succ]
      refine vl_nil ?_
      refine (th_n ?_)
      refine VC_seq ?_
      obtain ⟨u, hu⟩ : ∃ r, rmulL e e = r := ⟨_, rfl⟩
      have ou : digN u := by rw [← hu]; exact rmulL_dig oe oe
      have lu := ou.1
      refine VC_region ?_
      refine vl_v (q_loads 1 Try.underlying65 rfl rfl rfl sz65 (by simp only [zb, zu, zw, zi, n64s_length, za]; omega)) rfl ?_
      refine vl_v (q_loads 1 Try.underlying65 rfl rfl rfl sz65 (by simp only [zb, zu, zw, zi, n64s_length, za]; omega)) rfl ?_
      refine vl_v (q_callV Try.func38 rfl rfl rfl (fun w1 H1 => hu ▸ rmul_calls e e oe oe w1)) rfl ?_
      refine l_allocA zr65 rfl ?_
      intro b14
      simp only [u64s_rep]
      refine l_storeA 0 rfl rfl rfl sz65 (by simp only [zb, zu, zw, zi, n64s_length, za]; omega) (by with_reducible first | exact bys_one _ | exact u32s_one _ | exact u64s_one _ | exact i64s_one _ | exact n64s_one _ | assumption) (by simp only [zs, zr, zm, za, zb, zu, zw, zi, n64s_length, zt, zd, zc, zn, *] <;> first | done | omega) ?_
      simp only [List.set_cons_zero, List.set_cons_succ]
      refine vl_nil ?_
      refine (th_n ?_)
      refine VC_seq ?_
      obtain ⟨v, hv⟩ : ∃ r, rmulL f f = r := ⟨_, rfl⟩
      have ov : digN v := by rw [← hv]; exact rmulL_dig of of
      have lv := ov.1
      refine VC_region ?_
      refine vl_v (q_loads 1 Try.underlying65 rfl rfl rfl sz65 (by simp only [zb, zu, zw, zi, n64s_length, za]; omega)) rfl ?_
      refine vl_v (q_loads 1 Try.underlying65 rfl rfl rfl sz65 (by simp only [zb, zu, zw, zi, n64s_length, za]; omega)) rfl ?_
      refine vl_v (q_callV Try.func38 rfl rfl rfl (fun w1 H1 => hv ▸ rmul_calls f f of of w1)) rfl ?_
      refine l_allocA zr65 rfl ?_
      intro b15
      simp only [u64s_rep]
      refine l_storeA 0 rfl rfl rfl sz65 (by simp only [zb, zu, zw, zi, n64s_length, za]; omega) (by with_reducible first | exact bys_one _ | exact u32s_one _ | exact u64s_one _ | exact i64s_one _ | exact n64s_one _ | assumption) (by simp only [zs, zr, zm, za, zb, zu, zw, zi, n64s_length, zt, zd, zc, zn, *] <;> first | done | omega) ?_
      simp only [List.set_cons_zero, List.set_cons_succ]
      refine vl_nil ?_
      refine (th_n ?_)
      refine VC_seq ?_
      obtain ⟨ww, hww⟩ : ∃ r, rsubL u v = r := ⟨_, rfl⟩
      have oww : digN ww := by rw [← hww]; exact rsubL_dig ou ov
      have lww := oww.1
      refine VC_region ?_
      refine vl_v (q_loads 1 Try.underlying65 rfl rfl rfl sz65 (by simp only [zb, zu, zw, zi, n64s_length, za]; omega)) rfl ?_
      refine vl_v (q_loads 0 Try.underlying65 rfl rfl rfl sz65 (by simp only [zb, zu, zw, zi, n64s_length, za]; omega)) rfl ?_
      refine vl_v (q_callV Try.func37 rfl rfl rfl (fun w1 H1 => hww ▸ rsub_calls u v ou ov w1)) rfl ?_
      refine l_allocA zr65 rfl ?_
      intro b16
      simp only [u64s_rep]
      refine l_storeA 0 rfl rfl rfl sz65 (by simp only [zb, zu, zw, zi, n64s_length, za]; omega) (by with_reducible first | exact bys_one _ | exact u32s_one _ | exact u64s_one _ | exact i64s_one _ | exact n64s_one _ | assumption) (by simp only [zs, zr, zm, za, zb, zu, zw, zi, n64s_length, zt, zd, zc, zn, *] <;> first | done | omega) ?_
      simp only [List.set_cons_zero, List.set_cons_succ]
      refine vl_nil ?_
      refine (th_n ?_)
      refine VC_seq ?_
      obtain ⟨s1, hs1⟩ : ∃ r, rsubL ub ud = r := ⟨_, rfl⟩
      have os1 : digN s1 := by rw [← hs1]; exact rsubL_dig ob od
      have ls1 := os1.1
      obtain ⟨y, hy⟩ : ∃ r, rmulL s1 e = r := ⟨_, rfl⟩
      have oy : digN y := by rw [← hy]; exact rmulL_dig os1 oe
      have ly := oy.1
      refine VC_drawM 6 [[], [], [0, 1], [], [2, 3], [], [5, 4, 0, 1, 2, 3]] [[], [], [0, 1], [], [0, 1, 2, 3], [], [0, 1, 2, 3, 4, 5]] rfl (by kernel_rfl) ?_
      refine qm_v (fun xs hx => q_loads 6 Try.underlying65 rfl rfl rfl sz65 (by simp only [zb, zu, zw, zi, n64s_length, za]; omega)) ?_
      refine qm_v (fun xs hx => q_loads 8 Try.underlying65 rfl rfl rfl sz65 (by simp only [zb, zu, zw, zi, n64s_length, za]; omega)) ?_
      refine qm_v (fun xs hx => q_callV Try.func37 rfl rfl rfl (fun w1 H1 => hs1 ▸ rsub_calls ub ud ob od w1)) ?_
      refine qm_v (fun xs hx => q_loads 4 Try.underlying65 rfl rfl rfl sz65 (by simp only [zb, zu, zw, zi, n64s_length, za]; omega)) ?_
      refine qm_v (fun xs hx => q_callV Try.func38 rfl rfl rfl (fun w1 H1 => hy ▸ rmul_calls s1 e os1 oe w1)) ?_
      refine qm_a (fun xs hx => q_alloc zr65 rfl) ?_
      refine qm_end ?_
      intro xs hx
      obtain ⟨⟨b17, e17⟩, _⟩ := hx
      simp only [e17]
      simp only [resT, nRow, nBlk, nRowT, tupAt_0, List.append_assoc, List.nil_append, List.append_nil, List.cons_append, List.singleton_append, e17]
      refine VL.keep (Sub.cons (s := 2) rfl (Sub.cons (s := 4) rfl (Sub.cons (s := 5) rfl (Sub.cons (s := 6) rfl (Sub.cons (s := 7) rfl (Sub.cons (s := 8) rfl (Sub.cons (s := 9) rfl (Sub.cons (s := 10) rfl (Sub.cons (s := 29) rfl (Sub.cons (s := 34) rfl (Sub.cons (s := 12) rfl (Sub.cons (s := 13) rfl (Sub.cons (s := 14) rfl (Sub.cons (s := 15) rfl (Sub.cons (s := 16) rfl (Sub.cons (s := 60) rfl (Sub.cons (s := 17) rfl (Sub.nil _)))))))))))))))))) ?_
      refine l_storeA 0 rfl rfl rfl sz65 (by simp only [zb, zu, zw, zi, n64s_length, za]; omega) (by with_reducible first | exact bys_one _ | exact u32s_one _ | exact u64s_one _ | exact i64s_one _ | exact n64s_one _ | assumption) (by rfl) ?_
      simp only [List.set_cons_zero, List.set_cons_succ]
      refine vl_nil ?_
      refine (qn_n (th_n ?_))
      refine VC_seq ?_
      obtain ⟨s2, hs2⟩ : ∃ r, raddL ub ud = r := ⟨_, rfl⟩
      have os2 : digN s2 := by rw [← hs2]; exact raddL_dig ob od
      have ls2 := os2.1
      obtain ⟨zz, hzz⟩ : ∃ r, rmulL s2 f = r := ⟨_, rfl⟩
      have ozz : digN zz := by rw [← hzz]; exact rmulL_dig os2 of
      have lzz := ozz.1
      refine VC_drawM 6 [[], [], [0, 1], [], [2, 3], [], [5, 4, 0, 1, 2, 3]] [[], [], [0, 1], [], [0, 1, 2, 3], [], [0, 1, 2, 3, 4, 5]] rfl (by kernel_rfl) ?_
      refine qm_v (fun xs hx => q_loads 7 Try.underlying65 rfl rfl rfl sz65 (by simp only [zb, zu, zw, zi, n64s_length, za]; omega)) ?_
      refine qm_v (fun xs hx => q_loads 9 Try.underlying65 rfl rfl rfl sz65 (by simp only [zb, zu, zw, zi, n64s_length, za]; omega)) ?_
      refine qm_v (fun xs hx => q_callV Try.func36 rfl rfl rfl (fun w1 H1 => hs2 ▸ radd_calls ub ud ob od w1)) ?_
      refine qm_v (fun xs hx => q_loads 4 Try.underlying65 rfl rfl rfl sz65 (by simp only [zb, zu, zw, zi, n64s_length, za]; omega)) ?_
      refine qm_v (fun xs hx => q_callV Try.func38 rfl rfl rfl (fun w1 H1 => hzz ▸ rmul_calls s2 f os2 of w1)) ?_
      refine qm_a (fun xs hx => q_alloc zr65 rfl) ?_
      refine qm_end ?_
      intro xs hx
      obtain ⟨⟨b18, e18⟩, _⟩ := hx
      simp only [e18]
      simp only [resT, nRow, nBlk, nRowT, tupAt_0, List.append_assoc, List.nil_append, List.append_nil, List.cons_append, List.singleton_append, e18]
      refine VL.keep (Sub.cons (s := 2) rfl (Sub.cons (s := 4) rfl (Sub.cons (s := 5) rfl (Sub.cons (s := 6) rfl (Sub.cons (s := 7) rfl (Sub.cons (s := 8) rfl (Sub.cons (s := 9) rfl (Sub.cons (s := 10) rfl (Sub.cons (s := 29) rfl (Sub.cons (s := 34) rfl (Sub.cons (s := 12) rfl (Sub.cons (s := 13) rfl (Sub.cons (s := 14) rfl (Sub.cons (s := 15) rfl (Sub.cons (s := 16) rfl (Sub.cons (s := 17) rfl (Sub.cons (s := 65) rfl (Sub.cons (s := 18) rfl (Sub.nil _))))))))))))))))))) ?_
      refine l_storeA 0 rfl rfl rfl sz65 (by simp only [zb, zu, zw, zi, n64s_length, za]; omega) (by with_reducible first | exact bys_one _ | exact u32s_one _ | exact u64s_one _ | exact i64s_one _ | exact n64s_one _ | assumption) (by rfl) ?_
      simp only [List.set_cons_zero, List.set_cons_succ]
      refine vl_nil ?_
      refine (qn_n (th_n ?_))
      refine VC_seq ?_
      obtain ⟨mo, hmo⟩ : ∃ r, raddL y zz = r := ⟨_, rfl⟩
      have omo : digN mo := by rw [← hmo]; exact raddL_dig oy ozz
      have lmo := omo.1
      refine VC_region ?_
      refine vl_v (q_loads 1 Try.underlying65 rfl rfl rfl sz65 (by simp only [zb, zu, zw, zi, n64s_length, za]; omega)) rfl ?_
      refine vl_v (q_loads 0 Try.underlying65 rfl rfl rfl sz65 (by simp only [zb, zu, zw, zi, n64s_length, za]; omega)) rfl ?_
      refine vl_v (q_callV Try.func36 rfl rfl rfl (fun w1 H1 => hmo ▸ radd_calls y zz oy ozz w1)) rfl ?_
      refine l_allocA zr65 rfl ?_
      intro b19
      simp only [u64s_rep]
      refine l_storeA 0 rfl rfl rfl sz65 (by simp only [zb, zu, zw, zi, n64s_length, za]; omega) (by with_reducible first | exact bys_one _ | exact u32s_one _ | exact u64s_one _ | exact i64s_one _ | exact n64s_one _ | assumption) (by simp only [zs, zr, zm, za, zb, zu, zw, zi, n64s_length, zt, zd, zc, zn, *] <;> first | done | omega) ?_
      simp only [List.set_cons_zero, List.set_cons_succ]
      refine vl_nil ?_
      refine (th_n ?_)
      refine VC_seq ?_
      obtain ⟨ls, hls⟩ : ∃ r, rsubL y zz = r := ⟨_, rfl⟩
      have ols : digN ls := by rw [← hls]; exact rsubL_dig oy ozz
      have lls := ols.1
      refine VC_region ?_
      refine vl_v (q_loads 2 Try.underlying65 rfl rfl rfl sz65 (by simp only [zb, zu, zw, zi, n64s_length, za]; omega)) rfl ?_
      refine vl_v (q_loads 1 Try.underlying65 rfl rfl rfl sz65 (by simp only [zb, zu, zw, zi, n64s_length, za]; omega)) rfl ?_
      refine vl_v (q_callV Try.func37 rfl rfl rfl (fun w1 H1 => hls ▸ rsub_calls y zz oy ozz w1)) rfl ?_
      refine l_allocA zr65 rfl ?_
      intro b20
      simp only [u64s_rep]
      refine l_storeA 0 rfl rfl rfl sz65 (by simp only [zb, zu, zw, zi, n64s_length, za]; omega) (by with_reducible first | exact bys_one _ | exact u32s_one _ | exact u64s_one _ | exact i64s_one _ | exact n64s_one _ | assumption) (by simp only [zs, zr, zm, za, zb, zu, zw, zi, n64s_length, zt, zd, zc, zn, *] <;> first | done | omega) ?_
      simp only [List.set_cons_zero, List.set_cons_succ]
      refine vl_nil ?_
      refine (th_n ?_)
      refine VC_seq ?_
      obtain ⟨nb, hnb⟩ : ∃ r, rmulL mo mo = r := ⟨_, rfl⟩
      have onb : digN nb := by rw [← hnb]; exact rmulL_dig omo omo
      have lnb := onb.1
      refine VC_region ?_
      refine vl_v (q_loads 1 Try.underlying65 rfl rfl rfl sz65 (by simp only [zb, zu, zw, zi, n64s_length, za]; omega)) rfl ?_
      refine vl_v (q_loads 1 Try.underlying65 rfl rfl rfl sz65 (by simp only [zb, zu, zw, zi, n64s_length, za]; omega)) rfl ?_
      refine vl_v (q_callV Try.func38 rfl rfl rfl (fun w1 H1 => hnb ▸ rmul_calls mo mo omo omo w1)) rfl ?_
      refine l_storeA 10 rfl rfl rfl sz65 (by simp only [zb, zu, zw, zi, n64s_length, za]; omega) (by with_reducible first | exact bys_one _ | exact u32s_one _ | exact u64s_one _ | exact i64s_one _ | exact n64s_one _ | assumption) (by simp only [zb, zu, zw, zi, n64s_length, za]; omega) ?_
      simp only [List.set_cons_zero, List.set_cons_succ]
      refine vl_nil ?_
      refine (th_n ?_)
      refine VC_seq ?_
      obtain ⟨l2, hl2⟩ : ∃ r, rmulL ls ls = r := ⟨_, rfl⟩
      have ol2 : digN l2 := by rw [← hl2]; exact rmulL_dig ols ols
      have ll2 := ol2.1
      obtain ⟨nd, hnd⟩ : ∃ r, rmulL x l2 = r := ⟨_, rfl⟩
      have ond : digN nd := by rw [← hnd]; exact rmulL_dig ox ol2
      have lnd := ond.1
      refine VC_drawV 4 [[], [], [], [1, 2], [0, 3], [4, 0, 1, 2, 3]] [[], [], [], [1, 2], [0, 1, 2, 3], [0, 1, 2, 3, 4]] rfl (by kernel_rfl) ?_
      refine qv_v (q_loads 13 Try.underlying65 rfl rfl rfl sz65 (by simp only [zb, zu, zw, zi, n64s_length, za]; omega)) ?_
      refine qv_v (q_loads 0 Try.underlying65 rfl rfl rfl sz65 (by simp only [zb, zu, zw, zi, n64s_length, za]; omega)) ?_
      refine qv_v (q_loads 0 Try.underlying65 rfl rfl rfl sz65 (by simp only [zb, zu, zw, zi, n64s_length, za]; omega)) ?_
      refine qv_v (q_callV Try.func38 rfl rfl rfl (fun w1 H1 => hl2 ▸ rmul_calls ls ls ols ols w1)) ?_
      refine qv_end ?_
      refine VL.keep (Sub.cons (s := 2) rfl (Sub.cons (s := 4) rfl (Sub.cons (s := 5) rfl (Sub.cons (s := 6) rfl (Sub.cons (s := 7) rfl (Sub.cons (s := 8) rfl (Sub.cons (s := 9) rfl (Sub.cons (s := 10) rfl (Sub.cons (s := 29) rfl (Sub.cons (s := 34) rfl (Sub.cons (s := 12) rfl (Sub.cons (s := 13) rfl (Sub.cons (s := 14) rfl (Sub.cons (s := 15) rfl (Sub.cons (s := 16) rfl (Sub.cons (s := 17) rfl (Sub.cons (s := 18) rfl (Sub.cons (s := 19) rfl (Sub.cons (s := 20) rfl (Sub.cons (s := 75) rfl (Sub.cons (s := 78) rfl (Sub.nil _)))))))))))))))))))))) ?_
      refine vl_v (q_callV Try.func38 rfl rfl rfl (fun w1 H1 => hnd ▸ rmul_calls x l2 ox ol2 w1)) rfl ?_
      refine l_storeA 12 rfl rfl rfl sz65 (by simp only [zb, zu, zw, zi, n64s_length, za]; omega) (by with_reducible first | exact bys_one _ | exact u32s_one _ | exact u64s_one _ | exact i64s_one _ | exact n64s_one _ | assumption) (by simp only [zb, zu, zw, zi, n64s_length, za]; omega) ?_
      simp only [List.set_cons_zero, List.set_cons_succ]
      refine vl_nil ?_
      refine (qn_n (th_n ?_))
      refine VC_seq ?_
      obtain ⟨na, hna⟩ : ∃ r, rmulL u v = r := ⟨_, rfl⟩
      have ona : digN na := by rw [← hna]; exact rmulL_dig ou ov
      have lna := ona.1
      refine VC_region ?_
      refine vl_v (q_loads 6 Try.underlying65 rfl rfl rfl sz65 (by simp only [zb, zu, zw, zi, n64s_length, za]; omega)) rfl ?_
      refine vl_v (q_loads 5 Try.underlying65 rfl rfl rfl sz65 (by simp only [zb, zu, zw, zi, n64s_length, za]; omega)) rfl ?_
      refine vl_v (q_callV Try.func38 rfl rfl rfl (fun w1 H1 => hna ▸ rmul_calls u v ou ov w1)) rfl ?_
      refine l_storeA 9 rfl rfl rfl sz65 (by simp only [zb, zu, zw, zi, n64s_length, za]; omega) (by with_reducible first | exact bys_one _ | exact u32s_one _ | exact u64s_one _ | exact i64s_one _ | exact n64s_one _ | assumption) (by simp only [zb, zu, zw, zi, n64s_length, za]; omega) ?_
      simp only [List.set_cons_zero, List.set_cons_succ]
      refine vl_nil ?_
      refine (th_n ?_)
      refine VC_seq ?_
      obtain ⟨g1, hg1⟩ : ∃ r, rmulL gN ww = r := ⟨_, rfl⟩
      have og1 : digN g1 := by rw [← hg1]; exact rmulL_dig og oww
      have lg1 := og1.1
      obtain ⟨g2, hg2⟩ : ∃ r, raddL u g1 = r := ⟨_, rfl⟩
      have og2 : digN g2 := by rw [← hg2]; exact raddL_dig ou og1
      have lg2 := og2.1
      obtain ⟨nc, hnc⟩ : ∃ r, rmulL ww g2 = r := ⟨_, rfl⟩
      have onc : digN nc := by rw [← hnc]; exact rmulL_dig oww og2
      have lnc := onc.1
      refine VC_drawV 6 [[], [], [], [], [2, 3], [1, 4], [0, 5], [6, 0, 1, 2, 3, 4, 5]] [[], [], [], [], [2, 3], [1, 2, 3, 4], [0, 1, 2, 3, 4, 5], [0, 1, 2, 3, 4, 5, 6]] rfl (by kernel_rfl) ?_
      refine qv_v (q_loads 4 Try.underlying65 rfl rfl rfl sz65 (by simp only [zb, zu, zw, zi, n64s_length, za]; omega)) ?_
      refine qv_v (q_loads 6 Try.underlying65 rfl rfl rfl sz65 (by simp only [zb, zu, zw, zi, n64s_length, za]; omega)) ?_
      refine qv_v (q_build (c' := n64s gN) rfl (by kernel_rfl)) ?_
      refine qv_v (q_loads 4 Try.underlying65 rfl rfl rfl sz65 (by simp only [zb, zu, zw, zi, n64s_length, za]; omega)) ?_
      refine qv_v (q_callV Try.func38 rfl rfl rfl (fun w1 H1 => hg1 ▸ rmul_calls gN ww og oww w1)) ?_
      refine qv_v (q_callV Try.func36 rfl rfl rfl (fun w1 H1 => hg2 ▸ radd_calls u g1 ou og1 w1)) ?_
      refine qv_end ?_
      refine VL.keep (Sub.cons (s := 2) rfl (Sub.cons (s := 4) rfl (Sub.cons (s := 5) rfl (Sub.cons (s := 6) rfl (Sub.cons (s := 7) rfl (Sub.cons (s := 8) rfl (Sub.cons (s := 9) rfl (Sub.cons (s := 10) rfl (Sub.cons (s := 29) rfl (Sub.cons (s := 34) rfl (Sub.cons (s := 12) rfl (Sub.cons (s := 13) rfl (Sub.cons (s := 14) rfl (Sub.cons (s := 15) rfl (Sub.cons (s := 16) rfl (Sub.cons (s := 17) rfl (Sub.cons (s := 18) rfl (Sub.cons (s := 19) rfl (Sub.cons (s := 20) rfl (Sub.cons (s := 83) rfl (Sub.cons (s := 88) rfl (Sub.nil _)))))))))))))))))))))) ?_
      refine vl_v (q_callV Try.func38 rfl rfl rfl (fun w1 H1 => hnc ▸ rmul_calls ww g2 oww og2 w1)) rfl ?_
      refine l_storeA 11 rfl rfl rfl sz65 (by simp only [zb, zu, zw, zi, n64s_length, za]; omega) (by with_reducible first | exact bys_one _ | exact u32s_one _ | exact u64s_one _ | exact i64s_one _ | exact n64s_one _ | assumption) (by simp only [zb, zu, zw, zi, n64s_length, za]; omega) ?_
      simp only [List.set_cons_zero, List.set_cons_succ]
      refine vl_nil ?_
      refine (qn_n (th_n ?_))
      refine VC_seq ?_
      have hst : stepC raddL rsubL rmulL x gN (ua, ub, uc, ud) = (na, nb, nc, nd) := by rw [← hna, ← hnb, ← hnc, ← hnd, ← hg2, ← hg1, ← hl2, ← hww, ← hmo, ← hls, ← hu, ← hv, ← hy, ← hzz, ← hs1, ← hs2, ← he, ← hf]; rfl
      refine VC_region ?_
      refine vl_v (q_loads 16 Try.underlying23 rfl rfl rfl sz23 (by simp only [zb, zu, zw, zi, n64s_length, za]; omega)) rfl ?_
      refine vl_v (q_move rfl) rfl ?_
      refine vl_v (q_callV Try.func35 rfl rfl rfl (fun w1 H1 => rbit_calls k i s hs hk hi254 w1)) rfl ?_
      refine vl_nil ?_
      refine (th_n ?_)
      refine VC_cond rfl (fun ht92 => ?_) (fun ht92 => ?_)
      · skip
        have hnext : F (j + 1) = (nb, na, nd, nc) := by rw [Fs j, ← hi, hq1, hst, hs, ht92]; rfl
        refine VC_seq ?_
        refine VC_region ?_
        refine vl_v (q_loads 9 Try.underlying65 rfl rfl rfl sz65 (by simp only [zb, zu, zw, zi, n64s_length, za]; omega)) rfl ?_
        refine l_allocA zr65 rfl ?_
        intro b21
        simp only [u64s_rep]
        refine l_storeA 0 rfl rfl rfl sz65 (by simp only [zb, zu, zw, zi, n64s_length, za]; omega) (by with_reducible first | exact bys_one _ | exact u32s_one _ | exact u64s_one _ | exact i64s_one _ | exact n64s_one _ | assumption) (by simp only [zs, zr, zm, za, zb, zu, zw, zi, n64s_length, zt, zd, zc, zn, *] <;> first | done | omega) ?_
        simp only [List.set_cons_zero, List.set_cons_succ]
        refine vl_nil ?_
        refine (th_n ?_)
        refine VC_seq ?_
        refine VC_region ?_
        refine vl_v (q_loads 11 Try.underlying65 rfl rfl rfl sz65 (by simp only [zb, zu, zw, zi, n64s_length, za]; omega)) rfl ?_
        refine l_storeA 10 rfl rfl rfl sz65 (by simp only [zb, zu, zw, zi, n64s_length, za]; omega) (by with_reducible first | exact bys_one _ | exact u32s_one _ | exact u64s_one _ | exact i64s_one _ | exact n64s_one _ | assumption) (by simp only [zb, zu, zw, zi, n64s_length, za]; omega) ?_
        simp only [List.set_cons_zero, List.set_cons_succ]
        refine vl_nil ?_
        refine (th_n ?_)
        refine VC_seq ?_
        refine VC_region ?_
        refine vl_v (q_loads 0 Try.underlying65 rfl rfl rfl sz65 (by simp only [zb, zu, zw, zi, n64s_length, za]; omega)) rfl ?_
        refine l_storeA 11 rfl rfl rfl sz65 (by simp only [zb, zu, zw, zi, n64s_length, za]; omega) (by with_reducible first | exact bys_one _ | exact u32s_one _ | exact u64s_one _ | exact i64s_one _ | exact n64s_one _ | assumption) (by simp only [zb, zu, zw, zi, n64s_length, za]; omega) ?_
        simp only [List.set_cons_zero, List.set_cons_succ]
        refine vl_nil ?_
        refine (th_n ?_)
        refine VC_seq ?_
        refine VC_region ?_
        refine vl_v (q_loads 12 Try.underlying65 rfl rfl rfl sz65 (by simp only [zb, zu, zw, zi, n64s_length, za]; omega)) rfl ?_
        refine l_storeA 0 rfl rfl rfl sz65 (by simp only [zb, zu, zw, zi, n64s_length, za]; omega) (by with_reducible first | exact bys_one _ | exact u32s_one _ | exact u64s_one _ | exact i64s_one _ | exact n64s_one _ | assumption) (by simp only [zb, zu, zw, zi, n64s_length, za]; omega) ?_
        simp only [List.set_cons_zero, List.set_cons_succ]
        refine vl_nil ?_
        refine (th_n ?_)
        refine VC_seq ?_
        refine VC_region ?_
        refine vl_v (q_loads 13 Try.underlying65 rfl rfl rfl sz65 (by simp only [zb, zu, zw, zi, n64s_length, za]; omega)) rfl ?_
        refine l_storeA 12 rfl rfl rfl sz65 (by simp only [zb, zu, zw, zi, n64s_length, za]; omega) (by with_reducible first | exact bys_one _ | exact u32s_one _ | exact u64s_one _ | exact i64s_one _ | exact n64s_one _ | assumption) (by simp only [zb, zu, zw, zi, n64s_length, za]; omega) ?_
        simp only [List.set_cons_zero, List.set_cons_succ]
        refine vl_nil ?_
        refine (th_n ?_)
        refine VC_region ?_
        refine vl_v (q_loads 0 Try.underlying65 rfl rfl rfl sz65 (by simp only [zb, zu, zw, zi, n64s_length, za]; omega)) rfl ?_
        refine l_storeA 13 rfl rfl rfl sz65 (by simp only [zb, zu, zw, zi, n64s_length, za]; omega) (by with_reducible first | exact bys_one _ | exact u32s_one _ | exact u64s_one _ | exact i64s_one _ | exact n64s_one _ | assumption) (by simp only [zb, zu, zw, zi, n64s_length, za]; omega) ?_
        simp only [List.set_cons_zero, List.set_cons_succ]
        refine vl_nil ?_
        refine (bl_n (th_n ?_))
        refine VC_region ?_
        refine vl_v (q_move rfl) rfl ?_
        refine vl_v (q_sub_i rfl rfl (by omega) (by omega)) rfl ?_
        refine vl_v (q_assign rfl) rfl ?_
        refine vl_nil ?_
        refine (th_n ?_)
        refine ⟨j + 1, by omega, by omega, (Sub.cons (s := 2) rfl (Sub.cons (s := 4) rfl (Sub.cons (s := 5) rfl (Sub.cons (s := 6) rfl (Sub.cons (s := 7) rfl (Sub.cons (s := 8) rfl (Sub.cons (s := 9) rfl (Sub.cons (s := 10) (congrArg (fun x : Int => some (vI x)) (show ((i : Int) - 1 : Int) = 254 - ((j + 1 : Nat) : Int) by omega)) (Sub.nil _))))))))), fun w' H' => by rw [hnext]; first | exact St.pick H' (ks := [11, 12, 13, 14, 15, 16, 17, 18]) (by decide) rfl | exact St.pick H' (ks := [10, 11, 12, 13, 14, 15, 16, 17]) (by decide) rfl | exact St.pick H' (ks := [10, 11, 12, 13, 14, 15, 16, 17]) (by decide) rfl | exact St.pick H' (ks := [9, 10, 11, 12, 13, 14, 15, 16]) (by decide) rfl⟩
      · skip
        have hnext : F (j + 1) = (na, nb, nc, nd) := by rw [Fs j, ← hi, hq1, hst, hs, ht92]; rfl
        refine VC_skip ?_
        refine (bl_n (th_n ?_))
        refine VC_region ?_
        refine vl_v (q_move rfl) rfl ?_
        refine vl_v (q_sub_i rfl rfl (by omega) (by omega)) rfl ?_
        refine vl_v (q_assign rfl) rfl ?_
        refine vl_nil ?_
        refine (th_n ?_)
        refine ⟨j + 1, by omega, by omega, (Sub.cons (s := 2) rfl (Sub.cons (s := 4) rfl (Sub.cons (s := 5) rfl (Sub.cons (s := 6) rfl (Sub.cons (s := 7) rfl (Sub.cons (s := 8) rfl (Sub.cons (s := 9) rfl (Sub.cons (s := 10) (congrArg (fun x : Int => some (vI x)) (show ((i : Int) - 1 : Int) = 254 - ((j + 1 : Nat) : Int) by omega)) (Sub.nil _))))))))), fun w' H' => by rw [hnext]; first | exact St.pick H' (ks := [11, 12, 13, 14, 15, 16, 17, 18]) (by decide) rfl | exact St.pick H' (ks := [10, 11, 12, 13, 14, 15, 16, 17]) (by decide) rfl | exact St.pick H' (ks := [10, 11, 12, 13, 14, 15, 16, 17]) (by decide) rfl | exact St.pick H' (ks := [9, 10, 11, 12, 13, 14, 15, 16]) (by decide) rfl⟩
  · skip
    have ht29 := of_decide_eq_false ht29
    obtain rfl : j = 255 := by omega
    rw [← hFj] at hres
    refine VC_exit ?_
    refine (th_x (th_x (bl_xs (th_n ?_))))
    refine VC_seq ?_
    obtain ⟨ic, hic⟩ : ∃ r, rinvL uc0 = r := ⟨_, rfl⟩
    have oic : digN ic := by rw [← hic]; exact rinvL_dig oc0
    have lic := oic.1
    obtain ⟨m2, hm2⟩ : ∃ r, rmulL ua0 ic = r := ⟨_, rfl⟩
    have om2 : digN m2 := by rw [← hm2]; exact rmulL_dig oa0 oic
    have lm2 := om2.1
    have hr2 : keyV (valI (cz m2)) = res := by rw [← hm2, ← hic]; exact hres
    refine VC_drawV 3 [[], [], [1], [0, 2], [3], [4, 0, 1, 2, 3]] [[], [], [1], [0, 1, 2], [0, 1, 2, 3], [0, 1, 2, 3, 4]] rfl (by kernel_rfl) ?_
    refine qv_v (q_loads 0 Try.underlying65 rfl rfl rfl sz65 (by simp only [zb, zu, zw, zi, n64s_length, za]; omega)) ?_
    refine qv_v (q_loads 2 Try.underlying65 rfl rfl rfl sz65 (by simp only [zb, zu, zw, zi, n64s_length, za]; omega)) ?_
    refine qv_v (q_callV Try.func40 rfl rfl rfl (fun w1 H1 => hic ▸ rinv_calls uc0 oc0 w1)) ?_
    refine qv_end ?_
    refine VL.keep (Sub.cons (s := 2) rfl (Sub.cons (s := 4) rfl (Sub.cons (s := 5) rfl (Sub.cons (s := 6) rfl (Sub.cons (s := 7) rfl (Sub.cons (s := 8) rfl (Sub.cons (s := 9) rfl (Sub.cons (s := 10) rfl (Sub.cons (s := 29) rfl (Sub.cons (s := 99) rfl (Sub.cons (s := 101) rfl (Sub.nil _)))))))))))) ?_
    refine vl_v (q_callV Try.func38 rfl rfl rfl (fun w1 H1 => hm2 ▸ rmul_calls ua0 ic oa0 oic w1)) rfl ?_
    refine vl_v (q_callV Try.func39 rfl rfl rfl (fun w1 H1 => hr2 ▸ rkeyD_calls m2 om2 w1)) rfl ?_
    refine l_storeA 5 rfl rfl rfl sz23 (by simp only [zb, zu, zw, zi, n64s_length, za]; omega) (by with_reducible first | exact bys_one _ | exact u32s_one _ | exact u64s_one _ | exact i64s_one _ | exact n64s_one _ | assumption) (by simp only [zs, zr, zm, za, zb, zu, zw, zi, n64s_length, zt, zd, zc, zn, *] <;> first | done | omega) ?_
    simp only [List.set_cons_zero, List.set_cons_succ]
    refine vl_nil ?_
    refine (qn_n (th_n ?_))
    refine VC_ret ?_
    refine ⟨_, resC1 5 rfl Try.underlying23 rfl rfl rfl sz23 (by simp only [zb, zu, zw, zi, n64s_length, za]; omega), ?_⟩
    exact rfl
end Go.Proofs.Ytabmfndiepmcgaa
end
section
namespace Go.Proofs.Ytabmfndiepmcgaa
open Go.RowKit Go.PBYtabmfndiepmcgaa
set_option linter.unusedVariables false
set_option linter.unusedSimpArgs false
set_option maxRecDepth 10000
theorem mult_calls (k p : List UInt8) (hk : k.length = 32) (hp : p.length = 32) (w : World) :
    Calls Try.prog 31 #[.agg (bys k).toArray, .agg (bys p).toArray] w fun e w' => e = .returned (.agg (bys (kf (xm (sbit k) (lf p)))).toArray) ∧ Kept [] w w' :=
  mult_walk k p (clampB k) (ofL p) (ofL gK) (ofL (smallB 1)) (ladL (ofL p) (ofL gK) (sbit k) (q0L (ofL p))) (kf (xm (sbit k) (lf p))) hk hp rfl rfl rfl rfl
    (ladL_ok (ofL_okE hp) (ofL_okE gK_length) (sbit k) (q0L_ok (ofL_okE hp))) rfl (fun j => rfl) (mult_fin k p hp) w
theorem rmult_calls (k p : List UInt8) (hk : k.length = 32) (hp : p.length = 32) (w : World) :
    Calls Try.prog 27 #[.agg (bys k).toArray, .agg (bys p).toArray] w fun e w' => e = .returned (.agg (bys (kf (xm (sbit k) (lf p)))).toArray) ∧ Kept [] w w' :=
  rmult_walk k p (rofL p) (ladR (rofL p) gN (sbit k) (q0R (rofL p))) (kf (xm (sbit k) (lf p))) hk hp rfl
    (ladR_ok (rofL_dig hp) gN_dig (sbit k) (q0R_dig (rofL_dig hp))) rfl (fun j => rfl) (rmult_fin k p hp) w
set_option maxHeartbeats 1000000 in
theorem rbase_calls (k r : List UInt8) (hk : k.length = 32) (hr : kf (xm (sbit k) (lf (smallB 9))) = r) (w : World) :
    Calls Try.prog 22 #[.agg (bys k).toArray] w fun e w' => e = .returned (.agg (bys r).toArray) ∧ Kept [] w w' := by
  have lr : r.length = 32 := by rw [← hr]; exact kf_length _
  refine enter (n := 6) (R := fun e L => e = .returned (.agg (bys r).toArray)) [.agg (bys k).toArray] Try.func22 rfl rfl rfl (St.refl w) ?_ (fun e w' L' h H => ⟨h, H.kept⟩)
  refine VC_seq ?_
  refine VC_region ?_
  refine l_boxA rfl rfl ?_
  intro b1
  refine l_allocA zr23 rfl ?_
  intro b2
  refine vl_nil ?_
  refine (th_n ?_)
  refine VC_seq ?_
  refine VC_region ?_
  refine vl_v (q_loads 1 Try.underlying23 rfl rfl rfl sz23 (by simp only [zb, zu, zw, zi, za]; omega)) rfl ?_
  refine vl_v (q_build (c' := bys (smallB 9)) rfl (by kernel_rfl)) rfl ?_
  refine vl_v (q_callV Try.func27 rfl rfl rfl (fun w1 H1 => hr ▸ rmult_calls k (smallB 9) hk (smallB_length 9) w1)) rfl ?_
  refine l_storeA 0 rfl rfl rfl sz23 (by simp only [zb, zu, zw, zi, za]; omega) (by with_reducible first | exact bys_one _ | exact u32s_one _ | exact u64s_one _ | exact i64s_one _ | exact n64s_one _ | assumption) (by simp only [zs, zr, zm, za, zb, zu, zw, zi, zt, zd, zc, zn, *] <;> first | done | omega) ?_
  simp only [List.set_cons_zero, List.set_cons_succ]
  refine vl_nil ?_
  refine (th_n ?_)
  refine VC_ret ?_
  refine ⟨_, resC1 0 rfl Try.underlying23 rfl rfl rfl sz23 (by simp only [zb, zu, zw, zi, za]; omega), ?_⟩
  exact rfl
end Go.Proofs.Ytabmfndiepmcgaa
end
section
namespace Go.Proofs.Ytabmfndiepmcgaa
open Go.RowKit Go.PBYtabmfndiepmcgaa
set_option linter.unusedVariables false
set_option linter.unusedSimpArgs false
set_option maxRecDepth 10000
set_option maxHeartbeats 2000000 in
theorem draw_calls (k b : List UInt8) (B : Option Addr) (lb cb : Nat) (hk : k.length = 32) (hlb : lb = b.length) (hb : b.length ≤ 1000000) (w : World) (hB : SlAt w B (bys b)) (hcb : b.length ≤ cb) :
    Calls Try.prog 25 #[.agg (bys k).toArray, .slice B lb cb] w fun e w' => e = .returned (.agg (bys (macB k b)).toArray) ∧ Kept [] w w' := by
  subst hlb
  have hml := macB_length k b
  refine enter (n := 14) (R := fun e L => e = .returned (.agg (bys (macB k b)).toArray)) [.agg (bys k).toArray, .slice B b.length cb] Try.func25 rfl rfl rfl (St.refl w) ?_ (fun e w' L' h H => ⟨h, H.kept⟩)
  refine VC_seq ?_
  refine VC_region ?_
  refine l_boxA rfl rfl ?_
  intro b2
  refine l_allocA zr23 rfl ?_
  intro b4
  refine vl_nil ?_
  refine (th_n ?_)
  refine VC_seq ?_
  refine VC_region ?_
  refine vl_v (q_slcA Try.underlying23 sz5 rfl rfl rfl rfl (.inl rfl) (by omega) (by omega) (by omega) (by omega) (by (try simp only [Nat.mul_one, Nat.zero_add, Nat.zero_mul, Nat.mul_zero, Nat.add_zero]) <;> rfl)) rfl ?_
  refine vl_v (q_move rfl) rfl ?_
  refine vl_v (q_callV Try.func32 rfl rfl rfl (fun w1 H1 => mac_calls k b _ _ 32 cb 32 hk.symm (by omega) (by omega) hb w1 (Reads.blk 1 rfl w1 H1) (Reads.old hB w1 H1) (by omega) hcb)) rfl ?_
  refine vl_v (q_move rfl) rfl ?_
  refine vl_v (q_ext rfl rfl) rfl ?_
  refine vl_v (q_ext rfl rfl) rfl ?_
  refine l_allocA zr23 rfl ?_
  intro b5
  refine l_storeA 0 rfl rfl rfl sz23 (by simp only [zb, zu, zw, zi, za]; omega) (by with_reducible first | exact bys_one _ | exact u32s_one _ | exact u64s_one _ | exact i64s_one _ | exact n64s_one _ | assumption) (by simp only [zs, zr, zm, za, zb, zu, zw, zi, zt, zd, zc, zn, *] <;> first | done | omega) ?_
  simp only [List.set_cons_zero, List.set_cons_succ]
  refine vl_v (q_assign rfl) rfl ?_
  refine vl_nil ?_
  refine (th_n ?_)
  refine VC_seq ?_
  refine VC_region ?_
  refine vl_v (q_loads 0 Try.underlying23 rfl rfl rfl sz23 (by simp only [zb, zu, zw, zi, za]; omega)) rfl ?_
  refine l_storeA 1 rfl rfl rfl sz23 (by simp only [zb, zu, zw, zi, za]; omega) (by with_reducible first | exact bys_one _ | exact u32s_one _ | exact u64s_one _ | exact i64s_one _ | exact n64s_one _ | assumption) (by simp only [zs, zr, zm, za, zb, zu, zw, zi, zt, zd, zc, zn, *] <;> first | done | omega) ?_
  simp only [List.set_cons_zero, List.set_cons_succ]
  refine vl_nil ?_
  refine (th_n ?_)
  refine VC_ret ?_
  refine ⟨_, resC1 1 rfl Try.underlying23 rfl rfl rfl sz23 (by simp only [zb, zu, zw, zi, za]; omega), ?_⟩
  exact rfl
end Go.Proofs.Ytabmfndiepmcgaa
end
section
namespace Go.Proofs.Ytabmfndiepmcgaa
open Go.RowKit Go.PBYtabmfndiepmcgaa
set_option linter.unusedVariables false
set_option linter.unusedSimpArgs false
set_option maxRecDepth 10000
theorem rtag_calls (k p : List UInt8) (A : Option Addr) (c m : Nat) (hm : m = p.length) (hk : k.length = 32) (hp : p.length ≤ 1000000) (w : World) (hA : SlAt w A (bys p)) (hc : p.length ≤ c) :
    Calls Try.prog 28 #[.agg (bys k).toArray, .slice A m c] w fun e w' => e = .returned (.agg (bys (macB k p)).toArray) ∧ Kept [] w w' := by
  subst hm
  have hml := macB_length k p
  refine enter (n := 14) (R := fun e L => e = .returned (.agg (bys (macB k p)).toArray)) [.agg (bys k).toArray, .slice A p.length c] Try.func28 rfl rfl rfl (St.refl w) ?_ (fun e w' L' h H => ⟨h, H.kept⟩)
  refine VC_seq ?_
  refine VC_region ?_
  refine l_boxA rfl rfl ?_
  intro b2
  refine l_allocA zr23 rfl ?_
  intro b4
  refine vl_nil ?_
  refine (th_n ?_)
  refine VC_seq ?_
  refine VC_region ?_
  refine vl_v (q_slcA Try.underlying23 sz5 rfl rfl rfl rfl (.inl rfl) (by omega) (by omega) (by omega) (by omega) (by (try simp only [Nat.mul_one, Nat.zero_add, Nat.zero_mul, Nat.mul_zero, Nat.add_zero]) <;> rfl)) rfl ?_
  refine vl_v (q_move rfl) rfl ?_
  refine vl_v (q_callV Try.func30 rfl rfl rfl (fun w1 H1 => rmac_calls k p _ A _ c _ hk.symm (by omega) (by omega) hp w1 (Reads.blk 1 rfl w1 H1) (H1.sl0 hA) (by omega) hc)) rfl ?_
  refine vl_v (q_move rfl) rfl ?_
  refine vl_v (q_ext rfl rfl) rfl ?_
  refine vl_v (q_ext rfl rfl) rfl ?_
  refine l_allocA zr23 rfl ?_
  intro b5
  refine l_storeA 0 rfl rfl rfl sz23 (by simp only [zb, zu, zw, zi, za]; omega) (by with_reducible first | exact bys_one _ | exact u32s_one _ | exact u64s_one _ | exact i64s_one _ | exact n64s_one _ | assumption) (by simp only [zs, zr, zm, za, zb, zu, zw, zi, zt, zd, zc, zn, *] <;> first | done | omega) ?_
  simp only [List.set_cons_zero, List.set_cons_succ]
  refine vl_v (q_assign rfl) rfl ?_
  refine vl_nil ?_
  refine (th_n ?_)
  refine VC_seq ?_
  refine VC_region ?_
  refine vl_v (q_loads 0 Try.underlying23 rfl rfl rfl sz23 (by simp only [zb, zu, zw, zi, za]; omega)) rfl ?_
  refine l_storeA 1 rfl rfl rfl sz23 (by simp only [zb, zu, zw, zi, za]; omega) (by with_reducible first | exact bys_one _ | exact u32s_one _ | exact u64s_one _ | exact i64s_one _ | exact n64s_one _ | assumption) (by simp only [zs, zr, zm, za, zb, zu, zw, zi, zt, zd, zc, zn, *] <;> first | done | omega) ?_
  simp only [List.set_cons_zero, List.set_cons_succ]
  refine vl_nil ?_
  refine (th_n ?_)
  refine VC_ret ?_
  refine ⟨_, resC1 1 rfl Try.underlying23 rfl rfl rfl sz23 (by simp only [zb, zu, zw, zi, za]; omega), ?_⟩
  exact rfl
theorem rdraw_calls (k p : List UInt8) (A : Option Addr) (c m : Nat) (hm : m = p.length) (hk : k.length = 32) (hp : p.length ≤ 1000000) (w : World) (hA : SlAt w A (bys p)) (hc : p.length ≤ c) :
    Calls Try.prog 19 #[.agg (bys k).toArray, .slice A m c] w fun e w' => e = .returned (.agg (bys (macB k p)).toArray) ∧ Kept [] w w' := by
  subst hm
  have hml := macB_length k p
  refine enter (n := 8) (R := fun e L => e = .returned (.agg (bys (macB k p)).toArray)) [.agg (bys k).toArray, .slice A p.length c] Try.func19 rfl rfl rfl (St.refl w) ?_ (fun e w' L' h H => ⟨h, H.kept⟩)
  refine VC_seq ?_
  refine VC_region ?_
  refine l_boxA rfl rfl ?_
  intro b2
  refine l_allocA zr23 rfl ?_
  intro b4
  refine vl_nil ?_
  refine (th_n ?_)
  refine VC_seq ?_
  refine VC_region ?_
  refine vl_v (q_loads 1 Try.underlying23 rfl rfl rfl sz23 (by simp only [zb, zu, zw, zi, za]; omega)) rfl ?_
  refine vl_v (q_move rfl) rfl ?_
  refine vl_v (q_callV Try.func28 rfl rfl rfl (fun w1 H1 => rtag_calls k p A c _ rfl hk hp w1 (H1.sl0 hA) hc)) rfl ?_
  refine l_storeA 0 rfl rfl rfl sz23 (by simp only [zb, zu, zw, zi, za]; omega) (by with_reducible first | exact bys_one _ | exact u32s_one _ | exact u64s_one _ | exact i64s_one _ | exact n64s_one _ | assumption) (by simp only [zs, zr, zm, za, zb, zu, zw, zi, zt, zd, zc, zn, *] <;> first | done | omega) ?_
  simp only [List.set_cons_zero, List.set_cons_succ]
  refine vl_nil ?_
  refine (th_n ?_)
  refine VC_ret ?_
  refine ⟨_, resC1 0 rfl Try.underlying23 rfl rfl rfl sz23 (by simp only [zb, zu, zw, zi, za]; omega), ?_⟩
  exact rfl
end Go.Proofs.Ytabmfndiepmcgaa
end
section
namespace Go.Proofs.Ytabmfndiepmcgaa
open Go.RowKit Go.PBYtabmfndiepmcgaa
set_option linter.unusedVariables false
set_option maxRecDepth 10000
set_option linter.unusedSimpArgs false
set_option maxHeartbeats 400000 in
theorem rhigh_calls (n : Nat) (m K : Nat) (hK : K = min m 8) (hm : m ≤ 1000000000000000) (hn : n < 18446744073709551616) (w : World) :
    Calls Try.prog 29 #[.int .u64 n, .int .i64 m] w fun e w' => ∃ v, e = .returned v ∧ St [] w [.row 5 1 v K (bys (highB n K))] w' := by
  have H := (St.refl w).addNil 5 1
  have hK1 : K ≤ m := by omega
  have hK3 : K ≤ 8 := by omega
  have hK5 := Lib.hid (show K = m ∨ K = 8 by omega)
  have hn' := Lib.hid hn
  clear hK hn
  go_enter Try.func29, Try.ntmps29
  go_wp2_with (first | (with_reducible refine stop_box ?_) | (with_reducible refine stop_alloc ?_) | (with_reducible refine stop_load ?_) | (with_reducible refine stop_store ?_) | (with_reducible refine stop_make ?_) | (with_reducible refine stop_lit ?_) | (with_reducible refine stop_append ?_) | (with_reducible refine stop_copy ?_) | (with_reducible refine stop_map ?_) | (with_reducible refine stop_lookup ?_) | (with_reducible refine stop_update ?_) | (with_reducible refine stop_delete ?_) | (with_reducible refine stop_clear ?_) | (with_reducible refine stop_arr ?_) | (with_reducible refine stop_idx ?_) | (with_reducible refine stop_conv (e := 45) (f := 9) ?_) | ((with_reducible refine stopg_box ?hw ?_); case hw => rfl) | ((with_reducible refine stopg_alloc ?hw ?_); case hw => rfl) | ((with_reducible refine stopg_load ?hw ?_); case hw => rfl) | ((with_reducible refine stopg_store ?hw ?_); case hw => rfl) | ((with_reducible refine stopg_make ?hw ?_); case hw => rfl) | ((with_reducible refine stopg_lit ?hw ?_); case hw => rfl) | ((with_reducible refine stopg_append ?hw ?_); case hw => rfl) | ((with_reducible refine stopg_copy ?hw ?_); case hw => rfl) | ((with_reducible refine stopg_map ?hw ?_); case hw => rfl) | ((with_reducible refine stopg_lookup ?hw ?_); case hw => rfl) | ((with_reducible refine stopg_update ?hw ?_); case hw => rfl) | ((with_reducible refine stopg_delete ?hw ?_); case hw => rfl) | ((with_reducible refine stopg_clear ?hw ?_); case hw => rfl) | ((with_reducible refine stopg_arr ?hw ?_); case hw => rfl) | ((with_reducible refine stopg_conv (e := 45) (f := 9) ?hw ?_); case hw => rfl) | ((with_reducible refine stopg_idx ?hw ?_); case hw => rfl))
  go_loopw [0, 5, 6] (fun q v i wr => ∃ (k d : Nat), k ≤ K ∧ i = .int .i64 k ∧ q = .int .u64 d ∧ Hid (d = n / 2 ^ (8 * k)) ∧ St [] w [.row 5 1 v k (bys (highB n k))] wr) (fun _ _ i _ => K - (intOf i).toNat)
  case atStart => exact ⟨0, n, Nat.zero_le _, rfl, rfl, by simp [Hid], H⟩
  case round =>
    clear H
    obtain ⟨k, d, hk, rfl, rfl, hd, H⟩ := hrel
    by_cases hlt : k < K
    · have h1 : (k : Int) < (m : Int) := by omega
      have h2 : (k : Int) < 8 := by omega
      go_wp2_with (first | (with_reducible refine stop_box ?_) | (with_reducible refine stop_alloc ?_) | (with_reducible refine stop_load ?_) | (with_reducible refine stop_store ?_) | (with_reducible refine stop_make ?_) | (with_reducible refine stop_lit ?_) | (with_reducible refine stop_append ?_) | (with_reducible refine stop_copy ?_) | (with_reducible refine stop_map ?_) | (with_reducible refine stop_lookup ?_) | (with_reducible refine stop_update ?_) | (with_reducible refine stop_delete ?_) | (with_reducible refine stop_clear ?_) | (with_reducible refine stop_arr ?_) | (with_reducible refine stop_idx ?_) | (with_reducible refine stop_conv (e := 45) (f := 9) ?_) | ((with_reducible refine stopg_box ?hw ?_); case hw => rfl) | ((with_reducible refine stopg_alloc ?hw ?_); case hw => rfl) | ((with_reducible refine stopg_load ?hw ?_); case hw => rfl) | ((with_reducible refine stopg_store ?hw ?_); case hw => rfl) | ((with_reducible refine stopg_make ?hw ?_); case hw => rfl) | ((with_reducible refine stopg_lit ?hw ?_); case hw => rfl) | ((with_reducible refine stopg_append ?hw ?_); case hw => rfl) | ((with_reducible refine stopg_copy ?hw ?_); case hw => rfl) | ((with_reducible refine stopg_map ?hw ?_); case hw => rfl) | ((with_reducible refine stopg_lookup ?hw ?_); case hw => rfl) | ((with_reducible refine stopg_update ?hw ?_); case hw => rfl) | ((with_reducible refine stopg_delete ?hw ?_); case hw => rfl) | ((with_reducible refine stopg_clear ?hw ?_); case hw => rfl) | ((with_reducible refine stopg_arr ?hw ?_); case hw => rfl) | ((with_reducible refine stopg_conv (e := 45) (f := 9) ?hw ?_); case hw => rfl) | ((with_reducible refine stopg_idx ?hw ?_); case hw => rfl))
      refine wpl_want rfl (opw_lit1 [(0, .int .u8 (IntKind.u8.wrap (d : Int)))] H Try.underlying45 u8info (by omega) rfl rfl (by simp [Value.oneCell']) ?_)
      intro w3 b H3
      clear H
      obtain ⟨A1, c1, rfl, hc1, hm1, hs⟩ := (H3.get (k := 0) rfl).slice
      go_wp2_with (first | (with_reducible refine stop_box ?_) | (with_reducible refine stop_alloc ?_) | (with_reducible refine stop_load ?_) | (with_reducible refine stop_store ?_) | (with_reducible refine stop_make ?_) | (with_reducible refine stop_lit ?_) | (with_reducible refine stop_append ?_) | (with_reducible refine stop_copy ?_) | (with_reducible refine stop_map ?_) | (with_reducible refine stop_lookup ?_) | (with_reducible refine stop_update ?_) | (with_reducible refine stop_delete ?_) | (with_reducible refine stop_clear ?_) | (with_reducible refine stop_arr ?_) | (with_reducible refine stop_idx ?_) | (with_reducible refine stop_conv (e := 45) (f := 9) ?_) | ((with_reducible refine stopg_box ?hw ?_); case hw => rfl) | ((with_reducible refine stopg_alloc ?hw ?_); case hw => rfl) | ((with_reducible refine stopg_load ?hw ?_); case hw => rfl) | ((with_reducible refine stopg_store ?hw ?_); case hw => rfl) | ((with_reducible refine stopg_make ?hw ?_); case hw => rfl) | ((with_reducible refine stopg_lit ?hw ?_); case hw => rfl) | ((with_reducible refine stopg_append ?hw ?_); case hw => rfl) | ((with_reducible refine stopg_copy ?hw ?_); case hw => rfl) | ((with_reducible refine stopg_map ?hw ?_); case hw => rfl) | ((with_reducible refine stopg_lookup ?hw ?_); case hw => rfl) | ((with_reducible refine stopg_update ?hw ?_); case hw => rfl) | ((with_reducible refine stopg_delete ?hw ?_); case hw => rfl) | ((with_reducible refine stopg_clear ?hw ?_); case hw => rfl) | ((with_reducible refine stopg_arr ?hw ?_); case hw => rfl) | ((with_reducible refine stopg_conv (e := 45) (f := 9) ?hw ?_); case hw => rfl) | ((with_reducible refine stopg_idx ?hw ?_); case hw => rfl))
      refine wpl_want rfl (opw_append (k := 1) (m := k) H3 rfl Try.underlying45 Try.underlying45 u8info rfl (by omega) rfl rfl hs (by simp [bys, highB_length]) (bys_one _) (by omega) (by omega) ?_)
      intro w4 v4 H4
      clear H3 hs
      go_wp2_with (first | (with_reducible refine stop_box ?_) | (with_reducible refine stop_alloc ?_) | (with_reducible refine stop_load ?_) | (with_reducible refine stop_store ?_) | (with_reducible refine stop_make ?_) | (with_reducible refine stop_lit ?_) | (with_reducible refine stop_append ?_) | (with_reducible refine stop_copy ?_) | (with_reducible refine stop_map ?_) | (with_reducible refine stop_lookup ?_) | (with_reducible refine stop_update ?_) | (with_reducible refine stop_delete ?_) | (with_reducible refine stop_clear ?_) | (with_reducible refine stop_arr ?_) | (with_reducible refine stop_idx ?_) | (with_reducible refine stop_conv (e := 45) (f := 9) ?_) | ((with_reducible refine stopg_box ?hw ?_); case hw => rfl) | ((with_reducible refine stopg_alloc ?hw ?_); case hw => rfl) | ((with_reducible refine stopg_load ?hw ?_); case hw => rfl) | ((with_reducible refine stopg_store ?hw ?_); case hw => rfl) | ((with_reducible refine stopg_make ?hw ?_); case hw => rfl) | ((with_reducible refine stopg_lit ?hw ?_); case hw => rfl) | ((with_reducible refine stopg_append ?hw ?_); case hw => rfl) | ((with_reducible refine stopg_copy ?hw ?_); case hw => rfl) | ((with_reducible refine stopg_map ?hw ?_); case hw => rfl) | ((with_reducible refine stopg_lookup ?hw ?_); case hw => rfl) | ((with_reducible refine stopg_update ?hw ?_); case hw => rfl) | ((with_reducible refine stopg_delete ?hw ?_); case hw => rfl) | ((with_reducible refine stopg_clear ?hw ?_); case hw => rfl) | ((with_reducible refine stopg_arr ?hw ?_); case hw => rfl) | ((with_reducible refine stopg_conv (e := 45) (f := 9) ?hw ?_); case hw => rfl) | ((with_reducible refine stopg_idx ?hw ?_); case hw => rfl))
      refine ⟨⟨k + 1, d / 256, by omega, by go_num, ?_, ?_, ?_⟩, by simp [intOf]; omega⟩
      · rw [div256 d (by rw [hd.out]; exact Nat.lt_of_le_of_lt (Nat.div_le_self _ _) hn'.out)]
      · show _ = _
        rw [hd.out, div_step]
      · have e : bys (highB n (k + 1)) = [.int .u8 (IntKind.u8.wrap (d : Int))] ++ bys (highB n k) := by
          unfold highB
          rw [lowB_succ, List.reverse_append, bys_append, byte_of, hd.out]
          rfl
        rw [e, Nat.add_comm k 1]
        exact H4.sub (by simp [fillL])
    · have h1 : k = K := by omega
      subst h1
      rcases hK5.out with h | h
      · subst h
        go_wp2_with (first | (with_reducible refine stop_box ?_) | (with_reducible refine stop_alloc ?_) | (with_reducible refine stop_load ?_) | (with_reducible refine stop_store ?_) | (with_reducible refine stop_make ?_) | (with_reducible refine stop_lit ?_) | (with_reducible refine stop_append ?_) | (with_reducible refine stop_copy ?_) | (with_reducible refine stop_map ?_) | (with_reducible refine stop_lookup ?_) | (with_reducible refine stop_update ?_) | (with_reducible refine stop_delete ?_) | (with_reducible refine stop_clear ?_) | (with_reducible refine stop_arr ?_) | (with_reducible refine stop_idx ?_) | (with_reducible refine stop_conv (e := 45) (f := 9) ?_) | ((with_reducible refine stopg_box ?hw ?_); case hw => rfl) | ((with_reducible refine stopg_alloc ?hw ?_); case hw => rfl) | ((with_reducible refine stopg_load ?hw ?_); case hw => rfl) | ((with_reducible refine stopg_store ?hw ?_); case hw => rfl) | ((with_reducible refine stopg_make ?hw ?_); case hw => rfl) | ((with_reducible refine stopg_lit ?hw ?_); case hw => rfl) | ((with_reducible refine stopg_append ?hw ?_); case hw => rfl) | ((with_reducible refine stopg_copy ?hw ?_); case hw => rfl) | ((with_reducible refine stopg_map ?hw ?_); case hw => rfl) | ((with_reducible refine stopg_lookup ?hw ?_); case hw => rfl) | ((with_reducible refine stopg_update ?hw ?_); case hw => rfl) | ((with_reducible refine stopg_delete ?hw ?_); case hw => rfl) | ((with_reducible refine stopg_clear ?hw ?_); case hw => rfl) | ((with_reducible refine stopg_arr ?hw ?_); case hw => rfl) | ((with_reducible refine stopg_conv (e := 45) (f := 9) ?hw ?_); case hw => rfl) | ((with_reducible refine stopg_idx ?hw ?_); case hw => rfl))
        go_ret
        exact ⟨_, rfl, H⟩
      · subst h
        by_cases hm8 : (8 : Int) < (m : Int)
        · go_wp2_with (first | (with_reducible refine stop_box ?_) | (with_reducible refine stop_alloc ?_) | (with_reducible refine stop_load ?_) | (with_reducible refine stop_store ?_) | (with_reducible refine stop_make ?_) | (with_reducible refine stop_lit ?_) | (with_reducible refine stop_append ?_) | (with_reducible refine stop_copy ?_) | (with_reducible refine stop_map ?_) | (with_reducible refine stop_lookup ?_) | (with_reducible refine stop_update ?_) | (with_reducible refine stop_delete ?_) | (with_reducible refine stop_clear ?_) | (with_reducible refine stop_arr ?_) | (with_reducible refine stop_idx ?_) | (with_reducible refine stop_conv (e := 45) (f := 9) ?_) | ((with_reducible refine stopg_box ?hw ?_); case hw => rfl) | ((with_reducible refine stopg_alloc ?hw ?_); case hw => rfl) | ((with_reducible refine stopg_load ?hw ?_); case hw => rfl) | ((with_reducible refine stopg_store ?hw ?_); case hw => rfl) | ((with_reducible refine stopg_make ?hw ?_); case hw => rfl) | ((with_reducible refine stopg_lit ?hw ?_); case hw => rfl) | ((with_reducible refine stopg_append ?hw ?_); case hw => rfl) | ((with_reducible refine stopg_copy ?hw ?_); case hw => rfl) | ((with_reducible refine stopg_map ?hw ?_); case hw => rfl) | ((with_reducible refine stopg_lookup ?hw ?_); case hw => rfl) | ((with_reducible refine stopg_update ?hw ?_); case hw => rfl) | ((with_reducible refine stopg_delete ?hw ?_); case hw => rfl) | ((with_reducible refine stopg_clear ?hw ?_); case hw => rfl) | ((with_reducible refine stopg_arr ?hw ?_); case hw => rfl) | ((with_reducible refine stopg_conv (e := 45) (f := 9) ?hw ?_); case hw => rfl) | ((with_reducible refine stopg_idx ?hw ?_); case hw => rfl))
          go_ret
          exact ⟨_, rfl, H⟩
        · go_wp2_with (first | (with_reducible refine stop_box ?_) | (with_reducible refine stop_alloc ?_) | (with_reducible refine stop_load ?_) | (with_reducible refine stop_store ?_) | (with_reducible refine stop_make ?_) | (with_reducible refine stop_lit ?_) | (with_reducible refine stop_append ?_) | (with_reducible refine stop_copy ?_) | (with_reducible refine stop_map ?_) | (with_reducible refine stop_lookup ?_) | (with_reducible refine stop_update ?_) | (with_reducible refine stop_delete ?_) | (with_reducible refine stop_clear ?_) | (with_reducible refine stop_arr ?_) | (with_reducible refine stop_idx ?_) | (with_reducible refine stop_conv (e := 45) (f := 9) ?_) | ((with_reducible refine stopg_box ?hw ?_); case hw => rfl) | ((with_reducible refine stopg_alloc ?hw ?_); case hw => rfl) | ((with_reducible refine stopg_load ?hw ?_); case hw => rfl) | ((with_reducible refine stopg_store ?hw ?_); case hw => rfl) | ((with_reducible refine stopg_make ?hw ?_); case hw => rfl) | ((with_reducible refine stopg_lit ?hw ?_); case hw => rfl) | ((with_reducible refine stopg_append ?hw ?_); case hw => rfl) | ((with_reducible refine stopg_copy ?hw ?_); case hw => rfl) | ((with_reducible refine stopg_map ?hw ?_); case hw => rfl) | ((with_reducible refine stopg_lookup ?hw ?_); case hw => rfl) | ((with_reducible refine stopg_update ?hw ?_); case hw => rfl) | ((with_reducible refine stopg_delete ?hw ?_); case hw => rfl) | ((with_reducible refine stopg_clear ?hw ?_); case hw => rfl) | ((with_reducible refine stopg_arr ?hw ?_); case hw => rfl) | ((with_reducible refine stopg_conv (e := 45) (f := 9) ?hw ?_); case hw => rfl) | ((with_reducible refine stopg_idx ?hw ?_); case hw => rfl))
          go_ret
          exact ⟨_, rfl, H⟩
def JoC (w0 : World) (J h b : List Value) (n m : Nat) (u : Value) (s : Nat) (v : Value) (w' : World) : Prop :=
  match s with
  | 0 => St [] w0 [.row 5 1 u n J] w'
  | 1 => St [] w0 [.row 5 1 u n J, .row 5 1 v 4 h] w'
  | 2 => St [] w0 [.row 5 1 v (n + 4) (J ++ h)] w'
  | _ => St [] w0 [.row 5 1 v (n + 4 + m) (J ++ h ++ b)] w'
theorem joinB_part (ls : List (List UInt8)) (k : Nat) : (joinB (ls.take k)).length ≤ (joinB ls).length := by
  have h2 : ∀ (x y : List (List UInt8)), joinB (x ++ y) = joinB x ++ joinB y := by
    intro x y
    induction x with
    | nil => rfl
    | cons a x ih => simp [joinB, ih]
  have h3 := congrArg (fun q => (joinB q).length) (List.take_append_drop k ls)
  simp only [h2, List.length_append] at h3
  omega
set_option maxHeartbeats 800000 in
theorem rjoin_calls (ls : List (List UInt8)) (v0 : Value) (w : World) (hv : RowsAt w v0 ls) (hb : (joinB ls).length ≤ 1000000000) (hn : ls.length ≤ 140737488355328) :
    Calls Try.prog 20 #[v0] w fun e w' => ∃ v, e = .returned v ∧ St [] w [.row 5 1 v (joinB ls).length (bys (joinB ls))] w' := by
  have H := (St.refl w).addNil 5 1
  obtain ⟨A, c, vs, rfl, hc, hA, hvl, hvs⟩ := hv
  have hvl' := Lib.hid hvl
  have hvs' := Lib.hid hvs
  clear hvl hvs
  go_enter Try.func20, Try.ntmps20
  go_wp2_with (first | (with_reducible refine stop_box ?_) | (with_reducible refine stop_alloc ?_) | (with_reducible refine stop_load ?_) | (with_reducible refine stop_store ?_) | (with_reducible refine stop_make ?_) | (with_reducible refine stop_lit ?_) | (with_reducible refine stop_append ?_) | (with_reducible refine stop_copy ?_) | (with_reducible refine stop_map ?_) | (with_reducible refine stop_lookup ?_) | (with_reducible refine stop_update ?_) | (with_reducible refine stop_delete ?_) | (with_reducible refine stop_clear ?_) | (with_reducible refine stop_arr ?_) | (with_reducible refine stop_idx ?_) | (with_reducible refine stop_conv (e := 45) (f := 9) ?_) | ((with_reducible refine stopg_box ?hw ?_); case hw => rfl) | ((with_reducible refine stopg_alloc ?hw ?_); case hw => rfl) | ((with_reducible refine stopg_load ?hw ?_); case hw => rfl) | ((with_reducible refine stopg_store ?hw ?_); case hw => rfl) | ((with_reducible refine stopg_make ?hw ?_); case hw => rfl) | ((with_reducible refine stopg_lit ?hw ?_); case hw => rfl) | ((with_reducible refine stopg_append ?hw ?_); case hw => rfl) | ((with_reducible refine stopg_copy ?hw ?_); case hw => rfl) | ((with_reducible refine stopg_map ?hw ?_); case hw => rfl) | ((with_reducible refine stopg_lookup ?hw ?_); case hw => rfl) | ((with_reducible refine stopg_update ?hw ?_); case hw => rfl) | ((with_reducible refine stopg_delete ?hw ?_); case hw => rfl) | ((with_reducible refine stopg_clear ?hw ?_); case hw => rfl) | ((with_reducible refine stopg_arr ?hw ?_); case hw => rfl) | ((with_reducible refine stopg_conv (e := 45) (f := 9) ?hw ?_); case hw => rfl) | ((with_reducible refine stopg_idx ?hw ?_); case hw => rfl))
  go_loopw [3, 4] (fun v i wr => ∃ (k n : Nat), k ≤ ls.length ∧ i = .int .i64 k ∧ Hid (n = (joinB (ls.take k)).length) ∧ St [] w [.row 5 1 v n (bys (joinB (ls.take k)))] wr) (fun _ i _ => ls.length - (intOf i).toNat)
  case atStart => exact ⟨0, 0, Nat.zero_le _, rfl, rfl, H⟩
  case round =>
    clear H
    obtain ⟨k, n, hk, rfl, hnn, H⟩ := hrel
    by_cases hlt : k < ls.length
    · obtain ⟨b, hx⟩ : ∃ x, ls[k]? = some x := ⟨_, List.getElem?_eq_getElem (by omega)⟩
      obtain ⟨u, hu⟩ : ∃ x, vs[k]? = some x := ⟨_, List.getElem?_eq_getElem (by have := hvl'.out; omega)⟩
      obtain ⟨ad, rfl, hcell⟩ := hA k _ hu
      obtain ⟨B, d, rfl, hd, hB⟩ := hvs'.out k u b hu hx
      have hjs : joinB (ls.take (k + 1)) = joinB (ls.take k) ++ highB b.length 4 ++ b := by
        rw [List.take_add_one, hx]
        exact joinB_snoc _ _
      have hbl : n + 4 + b.length ≤ 1000000000 := by
        have := hnn.out
        have hjl := joinB_part ls (k + 1)
        rw [hjs] at hjl
        simp [highB_length] at hjl
        omega
      have hjs' := Lib.hid hjs
      clear hx hu hjs
      go_wp2_with (first | (with_reducible refine stop_box ?_) | (with_reducible refine stop_alloc ?_) | (with_reducible refine stop_load ?_) | (with_reducible refine stop_store ?_) | (with_reducible refine stop_make ?_) | (with_reducible refine stop_lit ?_) | (with_reducible refine stop_append ?_) | (with_reducible refine stop_copy ?_) | (with_reducible refine stop_map ?_) | (with_reducible refine stop_lookup ?_) | (with_reducible refine stop_update ?_) | (with_reducible refine stop_delete ?_) | (with_reducible refine stop_clear ?_) | (with_reducible refine stop_arr ?_) | (with_reducible refine stop_idx ?_) | (with_reducible refine stop_conv (e := 45) (f := 9) ?_) | ((with_reducible refine stopg_box ?hw ?_); case hw => rfl) | ((with_reducible refine stopg_alloc ?hw ?_); case hw => rfl) | ((with_reducible refine stopg_load ?hw ?_); case hw => rfl) | ((with_reducible refine stopg_store ?hw ?_); case hw => rfl) | ((with_reducible refine stopg_make ?hw ?_); case hw => rfl) | ((with_reducible refine stopg_lit ?hw ?_); case hw => rfl) | ((with_reducible refine stopg_append ?hw ?_); case hw => rfl) | ((with_reducible refine stopg_copy ?hw ?_); case hw => rfl) | ((with_reducible refine stopg_map ?hw ?_); case hw => rfl) | ((with_reducible refine stopg_lookup ?hw ?_); case hw => rfl) | ((with_reducible refine stopg_update ?hw ?_); case hw => rfl) | ((with_reducible refine stopg_delete ?hw ?_); case hw => rfl) | ((with_reducible refine stopg_clear ?hw ?_); case hw => rfl) | ((with_reducible refine stopg_arr ?hw ?_); case hw => rfl) | ((with_reducible refine stopg_conv (e := 45) (f := 9) ?hw ?_); case hw => rfl) | ((with_reducible refine stopg_idx ?hw ?_); case hw => rfl))
      refine wp_region_chain (n := 26) [7, 8, 13, 14] (fun s v w' => JoC w (bys (joinB (ls.take k))) (bys (highB b.length 4)) (bys b) n b.length u3 s v w' ∧ Kept [] w w') (regF [fun v _ => v = u3, fun v _ => v = .slice (some ad) ls.length c, fun v _ => v = .int .i64 k, fun v _ => v = .pointer (some (ad.add k)), fun v _ => v = .slice B b.length d, fun v _ => v = .int .i64 b.length, fun v _ => v = .int .u64 b.length, fun v w' => True, fun v w' => True, fun v _ => v = .slice (some ad) ls.length c, fun v _ => v = .int .i64 k, fun v _ => v = .pointer (some (ad.add k)), fun v _ => v = .slice B b.length d, fun v w' => True, fun v w' => True]) [[], [], [], [(12, 1), (13, 2)], [(14, 3)], [(15, 4)], [(16, 5)], [(17, 6)], [(11, 0), (18, 7)], [], [], [(20, 9), (21, 10)], [(22, 11)], [(19, 8), (23, 12)], [(24, 13), (11, 0), (12, 1), (13, 2), (14, 3), (15, 4), (16, 5), (17, 6), (18, 7), (19, 8), (20, 9), (21, 10), (22, 11), (23, 12)]] [(11, 0), (12, 1), (13, 2), (14, 3), (15, 4), (16, 5), (17, 6), (18, 7), (19, 8), (20, 9), (21, 10), (22, 11), (23, 12), (24, 13), (3, 14)] (by kernel_rfl) (by kernel_rfl) rfl ⟨H.drew, H.kept.drew⟩ ⟨?_, ?_, ?_, ?_, ?_, ?_, ?_, ?_, ?_, ?_, ?_, ?_, ?_, ?_, ?_, trivial⟩ ?_
      · intro s9 v9 vx w9 hs hv9 hC hF
        clear hF
        refine ⟨trivial, ?_⟩
        simp only [putsOf]
        exact opw_val (v := u3) (w' := w9) (by go_simp <;> (simp only [IntKind.wrap_u64, IntKind.wrap_i64] <;> omega)) ⟨_, rfl, by simp, (by rw [if_neg (by decide)]; exact hC), (fun _ _ h => h), rfl⟩
      · intro s9 v9 vx w9 hs hv9 hC hF
        clear hF
        refine ⟨trivial, ?_⟩
        simp only [putsOf]
        exact opw_val (v := .slice (some ad) ls.length c) (w' := w9) (by go_simp <;> (simp only [IntKind.wrap_u64, IntKind.wrap_i64] <;> omega)) ⟨_, rfl, by simp, (by rw [if_neg (by decide)]; exact hC), (fun _ _ h => h), rfl⟩
      · intro s9 v9 vx w9 hs hv9 hC hF
        clear hF
        refine ⟨trivial, ?_⟩
        simp only [putsOf]
        exact opw_val (v := .int .i64 k) (w' := w9) (by go_simp <;> (simp only [IntKind.wrap_u64, IntKind.wrap_i64] <;> omega)) ⟨_, rfl, by simp, (by rw [if_neg (by decide)]; exact hC), (fun _ _ h => h), rfl⟩
      · intro s9 v9 vx w9 hs hv9 hC hF
        have q1 : (vx 1) = .slice (some ad) ls.length c := hF (12, 1) (by simp)
        have q2 : (vx 2) = .int .i64 k := hF (13, 2) (by simp)
        clear hF
        refine ⟨trivial, ?_⟩
        simp only [putsOf, q1, q2]
        exact opw_val (v := .pointer (some (ad.add k))) (w' := w9) (by go_simp <;> (simp only [IntKind.wrap_u64, IntKind.wrap_i64] <;> omega)) ⟨_, rfl, by simp, (by rw [if_neg (by decide)]; exact hC), (fun _ _ h => h), rfl⟩
      · intro s9 v9 vx w9 hs hv9 hC hF
        have q3 : (vx 3) = .pointer (some (ad.add k)) := hF (14, 3) (by simp)
        clear hF
        refine ⟨trivial, ?_⟩
        simp only [putsOf, q3]
        exact opw_load Try.underlying45 rfl rfl (hC.2.cell hcell (by simp)) ⟨_, rfl, by simp, (by rw [if_neg (by decide)]; exact hC), (fun _ _ h => h), rfl⟩
      · intro s9 v9 vx w9 hs hv9 hC hF
        have q4 : (vx 4) = .slice B b.length d := hF (15, 4) (by simp)
        clear hF
        refine ⟨trivial, ?_⟩
        simp only [putsOf, q4]
        exact opw_val (v := .int .i64 b.length) (w' := w9) (by go_simp <;> (simp only [IntKind.wrap_u64, IntKind.wrap_i64] <;> omega)) ⟨_, rfl, by simp, (by rw [if_neg (by decide)]; exact hC), (fun _ _ h => h), rfl⟩
      · intro s9 v9 vx w9 hs hv9 hC hF
        have q5 : (vx 5) = .int .i64 b.length := hF (16, 5) (by simp)
        clear hF
        refine ⟨trivial, ?_⟩
        simp only [putsOf, q5]
        exact opw_val (v := .int .u64 b.length) (w' := w9) (by go_simp <;> (simp only [IntKind.wrap_u64, IntKind.wrap_i64] <;> omega)) ⟨_, rfl, by simp, (by rw [if_neg (by decide)]; exact hC), (fun _ _ h => h), rfl⟩
      · intro s9 v9 vx w9 hs hv9 hC hF
        have q6 : (vx 6) = .int .u64 b.length := hF (17, 6) (by simp)
        clear hF
        obtain rfl : s9 = 0 := by have h9 := hs (by decide); rcases s9 with _ | _ | _ | _ | s9 <;> simp at h9 <;> rfl
        refine ⟨trivial, ?_⟩
        simp only [putsOf, q6]
        have H9 : St [] w [.row 5 1 u3 n (bys (joinB (ls.take k)))] w9 := hC.1
        refine opw_call [.int .u64 b.length, .int .i64 4] Try.func29 rfl (by kernel_rfl) rfl ?_
        refine (rhigh_calls b.length 4 4 rfl (by omega) (by omega) w9).mono ?_
        rintro e w1 ⟨v, rfl, H1⟩
        have H2 : St [] w [.row 5 1 u3 n (bys (joinB (ls.take k))), .row 5 1 v 4 (bys (highB b.length 4))] w1 := H9.join H1
        exact ⟨_, rfl, _, rfl, by simp, (by rw [if_pos (by decide)]; exact ⟨H2, H2.kept⟩), (fun _ _ h => regF_const (by simp [allConst, Const.eq, Const.true]) h), trivial⟩
      · intro s9 v9 vx w9 hs hv9 hC hF
        have q0 : (vx 0) = u3 := hF (11, 0) (by simp)
        have q7 : True := hF (18, 7) (by simp)
        have p7 := q7
        obtain _ := q7
        clear hF
        obtain rfl : s9 = 1 := by have h9 := hs (by decide); rcases s9 with _ | _ | _ | _ | s9 <;> simp at h9 <;> rfl
        obtain rfl : v9 = vx 7 := hv9
        refine ⟨trivial, ?_⟩
        simp only [putsOf, q0]
        have H9 : St [] w [.row 5 1 u3 n (bys (joinB (ls.take k))), .row 5 1 (vx 7) 4 (bys (highB b.length 4))] w9 := hC.1
        obtain ⟨A1, c1, e1, hc1, hm1, hs9⟩ := (H9.get (k := 1) rfl).slice
        rw [e1] at H9 ⊢
        refine opw_append (k := 0) (m := 4) H9 rfl Try.underlying45 Try.underlying45 u8info rfl (by omega) rfl rfl hs9 (by simp [bys, highB_length]) (bys_one _) (by omega) (by omega) ?_
        intro w4 v4 H4
        have H5 : St [] w [.row 5 1 v4 (n + 4) (bys (joinB (ls.take k)) ++ bys (highB b.length 4))] w4 := H4.sub (by simp)
        exact ⟨_, rfl, by simp, (by rw [if_pos (by decide)]; exact ⟨H5, H5.kept⟩), (fun _ _ h => regF_const (by simp [allConst, Const.eq, Const.true]) h), trivial⟩
      · intro s9 v9 vx w9 hs hv9 hC hF
        clear hF
        refine ⟨trivial, ?_⟩
        simp only [putsOf]
        exact opw_val (v := .slice (some ad) ls.length c) (w' := w9) (by go_simp <;> (simp only [IntKind.wrap_u64, IntKind.wrap_i64] <;> omega)) ⟨_, rfl, by simp, (by rw [if_neg (by decide)]; exact hC), (fun _ _ h => h), rfl⟩
      · intro s9 v9 vx w9 hs hv9 hC hF
        clear hF
        refine ⟨trivial, ?_⟩
        simp only [putsOf]
        exact opw_val (v := .int .i64 k) (w' := w9) (by go_simp <;> (simp only [IntKind.wrap_u64, IntKind.wrap_i64] <;> omega)) ⟨_, rfl, by simp, (by rw [if_neg (by decide)]; exact hC), (fun _ _ h => h), rfl⟩
      · intro s9 v9 vx w9 hs hv9 hC hF
        have q9 : (vx 9) = .slice (some ad) ls.length c := hF (20, 9) (by simp)
        have q10 : (vx 10) = .int .i64 k := hF (21, 10) (by simp)
        clear hF
        refine ⟨trivial, ?_⟩
        simp only [putsOf, q9, q10]
        exact opw_val (v := .pointer (some (ad.add k))) (w' := w9) (by go_simp <;> (simp only [IntKind.wrap_u64, IntKind.wrap_i64] <;> omega)) ⟨_, rfl, by simp, (by rw [if_neg (by decide)]; exact hC), (fun _ _ h => h), rfl⟩
      · intro s9 v9 vx w9 hs hv9 hC hF
        have q11 : (vx 11) = .pointer (some (ad.add k)) := hF (22, 11) (by simp)
        clear hF
        refine ⟨trivial, ?_⟩
        simp only [putsOf, q11]
        exact opw_load Try.underlying45 rfl rfl (hC.2.cell hcell (by simp)) ⟨_, rfl, by simp, (by rw [if_neg (by decide)]; exact hC), (fun _ _ h => h), rfl⟩
      · intro s9 v9 vx w9 hs hv9 hC hF
        have q8 : True := hF (19, 8) (by simp)
        have p8 := q8
        obtain _ := q8
        have q12 : (vx 12) = .slice B b.length d := hF (23, 12) (by simp)
        clear hF
        obtain rfl : s9 = 2 := by have h9 := hs (by decide); rcases s9 with _ | _ | _ | _ | s9 <;> simp at h9 <;> rfl
        obtain rfl : v9 = vx 8 := hv9
        refine ⟨trivial, ?_⟩
        simp only [putsOf, q12]
        have H9 : St [] w [.row 5 1 (vx 8) (n + 4) (bys (joinB (ls.take k)) ++ bys (highB b.length 4))] w9 := hC.1
        refine opw_append (k := 0) (m := b.length) H9 rfl Try.underlying45 Try.underlying45 u8info rfl (by omega) rfl rfl (H9.sl0 hB) (by simp [bys]) (bys_one _) (by omega) (by omega) ?_
        intro w4 v4 H4
        have H5 : St [] w [.row 5 1 v4 (n + 4 + b.length) (bys (joinB (ls.take k)) ++ bys (highB b.length 4) ++ bys b)] w4 := H4
        exact ⟨_, rfl, by simp, (by rw [if_pos (by decide)]; exact ⟨H5, H5.kept⟩), (fun _ _ h => regF_const (by simp [allConst, Const.eq, Const.true]) h), trivial⟩
      · intro s9 v9 vx w9 hs hv9 hC hF
        have q13 : True := hF (24, 13) (by simp)
        have p13 := q13
        obtain _ := q13
        have q0 : (vx 0) = u3 := hF (11, 0) (by simp)
        have q1 : (vx 1) = .slice (some ad) ls.length c := hF (12, 1) (by simp)
        have q2 : (vx 2) = .int .i64 k := hF (13, 2) (by simp)
        have q3 : (vx 3) = .pointer (some (ad.add k)) := hF (14, 3) (by simp)
        have q4 : (vx 4) = .slice B b.length d := hF (15, 4) (by simp)
        have q5 : (vx 5) = .int .i64 b.length := hF (16, 5) (by simp)
        have q6 : (vx 6) = .int .u64 b.length := hF (17, 6) (by simp)
        have q7 : True := hF (18, 7) (by simp)
        have p7 := q7
        obtain _ := q7
        have q8 : True := hF (19, 8) (by simp)
        have p8 := q8
        obtain _ := q8
        have q9 : (vx 9) = .slice (some ad) ls.length c := hF (20, 9) (by simp)
        have q10 : (vx 10) = .int .i64 k := hF (21, 10) (by simp)
        have q11 : (vx 11) = .pointer (some (ad.add k)) := hF (22, 11) (by simp)
        have q12 : (vx 12) = .slice B b.length d := hF (23, 12) (by simp)
        clear hF
        obtain rfl : s9 = 3 := by have h9 := hs (by decide); rcases s9 with _ | _ | _ | _ | s9 <;> simp at h9 <;> rfl
        obtain rfl : v9 = vx 13 := hv9
        refine ⟨trivial, ?_⟩
        simp only [putsOf, q0, q1, q2, q3, q4, q5, q6, q9, q10, q11, q12]
        have H5 : St [] w [.row 5 1 (vx 13) (n + 4 + b.length) (bys (joinB (ls.take k)) ++ bys (highB b.length 4) ++ bys b)] w9 := hC.1
        exact opw_val (v := vx 13) (w' := w9) (by go_simp) ⟨_, rfl, by simp, (by rw [if_pos (by decide)]; exact ⟨H5, H5.kept⟩), (fun _ _ h => h), trivial⟩
      intro vx w9 hC hF
      have q0 : (vx 0) = u3 := hF 0 (by simp)
      have q1 : (vx 1) = .slice (some ad) ls.length c := hF 1 (by simp)
      have q2 : (vx 2) = .int .i64 k := hF 2 (by simp)
      have q3 : (vx 3) = .pointer (some (ad.add k)) := hF 3 (by simp)
      have q4 : (vx 4) = .slice B b.length d := hF 4 (by simp)
      have q5 : (vx 5) = .int .i64 b.length := hF 5 (by simp)
      have q6 : (vx 6) = .int .u64 b.length := hF 6 (by simp)
      have q7 : True := hF 7 (by simp)
      have p7 := q7
      obtain _ := q7
      have q8 : True := hF 8 (by simp)
      have p8 := q8
      obtain _ := q8
      have q9 : (vx 9) = .slice (some ad) ls.length c := hF 9 (by simp)
      have q10 : (vx 10) = .int .i64 k := hF 10 (by simp)
      have q11 : (vx 11) = .pointer (some (ad.add k)) := hF 11 (by simp)
      have q12 : (vx 12) = .slice B b.length d := hF 12 (by simp)
      have q13 : True := hF 13 (by simp)
      have p13 := q13
      obtain _ := q13
      have q14 : True := hF 14 (by simp)
      have p14 := q14
      obtain _ := q14
      clear hF
      simp only [putsOf, q0, q1, q2, q3, q4, q5, q6, q9, q10, q11, q12]
      simp only [Act.put, List.setIfInBounds_toArray, List.set_cons_succ, List.set_cons_zero]
      clear q0 q1 q2 q3 q4 q5 q6 q9 q10 q11 q12
      have H5 : St [] w [.row 5 1 (vx 14) (n + 4 + b.length) (bys (joinB (ls.take k)) ++ bys (highB b.length 4) ++ bys b)] w9 := hC.1
      go_wp2_with (first | (with_reducible refine stop_box ?_) | (with_reducible refine stop_alloc ?_) | (with_reducible refine stop_load ?_) | (with_reducible refine stop_store ?_) | (with_reducible refine stop_make ?_) | (with_reducible refine stop_lit ?_) | (with_reducible refine stop_append ?_) | (with_reducible refine stop_copy ?_) | (with_reducible refine stop_map ?_) | (with_reducible refine stop_lookup ?_) | (with_reducible refine stop_update ?_) | (with_reducible refine stop_delete ?_) | (with_reducible refine stop_clear ?_) | (with_reducible refine stop_arr ?_) | (with_reducible refine stop_idx ?_) | (with_reducible refine stop_conv (e := 45) (f := 9) ?_) | ((with_reducible refine stopg_box ?hw ?_); case hw => rfl) | ((with_reducible refine stopg_alloc ?hw ?_); case hw => rfl) | ((with_reducible refine stopg_load ?hw ?_); case hw => rfl) | ((with_reducible refine stopg_store ?hw ?_); case hw => rfl) | ((with_reducible refine stopg_make ?hw ?_); case hw => rfl) | ((with_reducible refine stopg_lit ?hw ?_); case hw => rfl) | ((with_reducible refine stopg_append ?hw ?_); case hw => rfl) | ((with_reducible refine stopg_copy ?hw ?_); case hw => rfl) | ((with_reducible refine stopg_map ?hw ?_); case hw => rfl) | ((with_reducible refine stopg_lookup ?hw ?_); case hw => rfl) | ((with_reducible refine stopg_update ?hw ?_); case hw => rfl) | ((with_reducible refine stopg_delete ?hw ?_); case hw => rfl) | ((with_reducible refine stopg_clear ?hw ?_); case hw => rfl) | ((with_reducible refine stopg_arr ?hw ?_); case hw => rfl) | ((with_reducible refine stopg_conv (e := 45) (f := 9) ?hw ?_); case hw => rfl) | ((with_reducible refine stopg_idx ?hw ?_); case hw => rfl))
      refine ⟨⟨k + 1, n + 4 + b.length, by omega, by go_num, ?_, ?_⟩, by simp [intOf]; omega⟩
      · show _ = _
        rw [hjs'.out, hnn.out]
        simp [highB_length]
        omega
      · rw [hjs'.out, bys_append, bys_append]
        exact H5
    · go_wp2_with (first | (with_reducible refine stop_box ?_) | (with_reducible refine stop_alloc ?_) | (with_reducible refine stop_load ?_) | (with_reducible refine stop_store ?_) | (with_reducible refine stop_make ?_) | (with_reducible refine stop_lit ?_) | (with_reducible refine stop_append ?_) | (with_reducible refine stop_copy ?_) | (with_reducible refine stop_map ?_) | (with_reducible refine stop_lookup ?_) | (with_reducible refine stop_update ?_) | (with_reducible refine stop_delete ?_) | (with_reducible refine stop_clear ?_) | (with_reducible refine stop_arr ?_) | (with_reducible refine stop_idx ?_) | (with_reducible refine stop_conv (e := 45) (f := 9) ?_) | ((with_reducible refine stopg_box ?hw ?_); case hw => rfl) | ((with_reducible refine stopg_alloc ?hw ?_); case hw => rfl) | ((with_reducible refine stopg_load ?hw ?_); case hw => rfl) | ((with_reducible refine stopg_store ?hw ?_); case hw => rfl) | ((with_reducible refine stopg_make ?hw ?_); case hw => rfl) | ((with_reducible refine stopg_lit ?hw ?_); case hw => rfl) | ((with_reducible refine stopg_append ?hw ?_); case hw => rfl) | ((with_reducible refine stopg_copy ?hw ?_); case hw => rfl) | ((with_reducible refine stopg_map ?hw ?_); case hw => rfl) | ((with_reducible refine stopg_lookup ?hw ?_); case hw => rfl) | ((with_reducible refine stopg_update ?hw ?_); case hw => rfl) | ((with_reducible refine stopg_delete ?hw ?_); case hw => rfl) | ((with_reducible refine stopg_clear ?hw ?_); case hw => rfl) | ((with_reducible refine stopg_arr ?hw ?_); case hw => rfl) | ((with_reducible refine stopg_conv (e := 45) (f := 9) ?hw ?_); case hw => rfl) | ((with_reducible refine stopg_idx ?hw ?_); case hw => rfl))
      have : k = ls.length := by omega
      subst this
      go_ret
      rw [List.take_length] at H hnn
      have := hnn.out
      subst this
      exact ⟨_, rfl, H⟩
end Go.Proofs.Ytabmfndiepmcgaa
end
section
namespace Go.PBYtabmfndiepmcgaa
open Go Go.RowKit
set_option linter.unusedSimpArgs false
set_option linter.unusedVariables false
def cellsL (v : Value) : List Value := v.cells.toList
def flatV (vs : List Value) : List Value := (vs.map cellsL).flatten
theorem cellsL_size (v : Value) : v.cells.size = (cellsL v).length := by simp [cellsL]
def plOk (pl : Nat → Option (Nat × Nat)) : Nat → Nat → List Value → Prop
  | _, _, [] => True
  | k, o, v :: r => pl k = some (o, (cellsL v).length) ∧ plOk pl (k + 1) (o + (cellsL v).length) r
theorem fillSeq (pl : Nat → Option (Nat × Nat)) : ∀ (vs : List Value) (k o : Nat) (c : List Value), plOk pl k o vs → o + (flatV vs).length ≤ c.length →
    Instr.fill pl c.toArray ((List.range' k vs.length).zip vs) = some (c.take o ++ flatV vs ++ c.drop (o + (flatV vs).length)).toArray
  | [], k, o, c, _, _ => by simp [Instr.fill, flatV]
  | v :: r, k, o, c, hp, h => by
    obtain ⟨hp1, hp2⟩ := hp
    have hfl : flatV (v :: r) = cellsL v ++ flatV r := rfl
    rw [hfl, List.length_append] at h
    rw [List.length_cons, List.range'_succ, List.zip_cons_cons]
    simp only [Instr.fill, hp1]
    rw [if_neg (by simp [cellsL_size]; omega)]
    have hf := foldSet (cellsL v) 0 o c (by omega)
    have e0 : (v.cells.zipIdx.foldl (fun (cs : Array Value) (x : Value × Nat) => match x with | (c, j) => cs.setIfInBounds (o + j) c) c.toArray) = (c.take o ++ cellsL v ++ c.drop (o + (cellsL v).length)).toArray := by
      rw [← Array.foldl_toList, Array.toList_zipIdx]
      rw [Nat.add_zero] at hf
      exact hf
    rw [e0]
    have hcl : (c.take o ++ cellsL v ++ c.drop (o + (cellsL v).length)).length = c.length := by simp; omega
    rw [fillSeq pl r (k + 1) (o + (cellsL v).length) _ hp2 (by rw [hcl]; omega)]
    have hlt : (c.take o).length = o := by simp; omega
    have e1 : (c.take o ++ cellsL v ++ c.drop (o + (cellsL v).length)).take (o + (cellsL v).length) = c.take o ++ cellsL v := by
      rw [List.take_append_of_le_length (by simp; omega), List.take_of_length_le (by simp; omega)]
    have e2 : (c.take o ++ cellsL v ++ c.drop (o + (cellsL v).length)).drop (o + (cellsL v).length + (flatV r).length) = c.drop (o + (flatV (v :: r)).length) := by
      rw [hfl, List.length_append, List.drop_append, List.drop_eq_nil_of_le (by simp; omega), List.nil_append, List.drop_drop]
      congr 1
      simp
      omega
    rw [e1, e2, hfl]
    simp
def placesS (P : Program) (t : TypeId) : Option (Nat × List (Nat × Nat)) :=
  match P.info? t, P.underlying t with
  | some it, some (.struct fields) =>
    match it.zero, fields.toList.mapM (fun f => (P.info? f.type).map fun i => (f.offset, i.size)) with
    | some z, some places => some ((cellsL z).length, places)
    | _, _ => none
  | _, _ => none
def seqs : Nat → List Nat → List (Nat × Nat)
  | _, [] => []
  | o, s :: r => (o, s) :: seqs (o + s) r
theorem plOk_seq : ∀ (vs : List Value) (k o : Nat) (pre places : List (Nat × Nat)), pre.length = k → places = pre ++ seqs o (vs.map fun v => (cellsL v).length) → plOk (fun i => places.toArray[i]?) k o vs
  | [], k, o, pre, places, _, _ => trivial
  | v :: r, k, o, pre, places, hk, h => by
    refine ⟨?_, plOk_seq r (k + 1) (o + (cellsL v).length) (pre ++ [(o, (cellsL v).length)]) places (by simp [hk]) (by rw [h]; simp [seqs])⟩
    subst hk
    rw [h]
    simp [seqs]
theorem flatV_length : ∀ vs : List Value, (flatV vs).length = (vs.map fun v => (cellsL v).length).sum
  | [] => rfl
  | v :: r => by
    have h := flatV_length r
    rw [show flatV (v :: r) = cellsL v ++ flatV r from rfl, List.length_append, h]
    rfl
theorem built_seq {P : Program} {t : TypeId} {tot : Nat} {places : List (Nat × Nat)} {vs : List Value} {sizes : List Nat} (hP : placesS P t = some (tot, places)) (hq : seqs 0 sizes = places) (ht : sizes.sum = tot) (hs : vs.map (fun v => (cellsL v).length) = sizes) :
    P.built t ((List.range vs.length).zip vs) = some (flatV vs).toArray := by
  unfold placesS at hP
  unfold Program.built
  cases hit : P.info? t with
  | none => simp [hit] at hP
  | some it =>
    cases hu : P.underlying t with
    | none => simp [hit, hu] at hP
    | some dd =>
      cases dd <;> try (simp [hit, hu] at hP; done)
      rename_i fields
      simp only [hit, hu] at hP ⊢
      cases hz : it.zero with
      | none => simp [hz] at hP
      | some z =>
        cases hm : fields.toList.mapM (fun f => (P.info? f.type).map fun i => (f.offset, i.size)) with
        | none => rw [hz, hm] at hP; simp at hP
        | some pl =>
          rw [hz, hm] at hP
          simp only [Option.some.injEq, Prod.mk.injEq] at hP
          obtain ⟨h1, h2⟩ := hP
          subst h2
          have hfl : (flatV vs).length = (cellsL z).length := by rw [flatV_length, hs, ht, h1]
          have h3 := fillSeq (fun i => pl.toArray[i]?) vs 0 0 (cellsL z) (plOk_seq vs 0 0 [] pl rfl (by rw [hs, hq]; rfl)) (by omega)
          simp only [hz]
          rw [List.range_eq_range']
          have e : z.cells = (cellsL z).toArray := by simp [cellsL]
          rw [e, h3]
          rw [Nat.zero_add, hfl]
          simp
section
variable {P : Program} {n : Nat} {S : List Nat} {w0 : World} {ops : Array Oper} {Q : QE} {rest : List Oper} {d : Tmp} {ty : TypeId} {pos : String} {af : Array Edge} {g : Option (Nat × Bool)} {env : Env} {L : List Res}
theorem q_buildS {t : TypeId} {pr : Array (Nat × Operand)} {tot : Nat} {places : List (Nat × Nat)} {vs : List Value} {sizes : List Nat} {c' : List Value} (hP : placesS P t = some (tot, places)) (hq : seqs 0 sizes = places) (ht : sizes.sum = tot)
    (hp : evalsE env (pr.toList.map (·.2)) = some vs) (hi : pr.toList.map (·.1) = List.range vs.length) (hs : vs.map (fun v => (cellsL v).length) = sizes) (hc : flatV vs = c') :
    QT P n S w0 { dst := some d, op := .build t pr, type := ty, pos, after := af, guard := g } env L (.val (.agg c'.toArray)) :=
  q_build (c' := c') hp (by rw [hi, ← hc]; exact built_seq hP hq ht hs)
/-- a row of bytes, converted to its own type -/
theorem set_self {α : Type} {l : List α} {k : Nat} {x : α} (h : l[k]? = some x) : l.set k x = l := by
  apply List.ext_getElem?
  intro i
  rw [List.getElem?_set]
  split
  · rename_i hi; subst hi
    have := (List.getElem?_eq_some_iff.1 h).1
    rw [if_pos this, h]
  · rfl
theorem l_convS {t e T : TypeId} {x : Operand} {b m cap size r : Nat} {xs : List Value} (k : Nat) (hu : P.underlying t = some (.slice e)) (he : P.underlying e = some (.int .u8)) (hx : evalE env x = some (.slice (some ⟨b, 0, none⟩) m cap)) (hk : L[k]? = some (.row T size (.slice (some ⟨b, 0, none⟩) m cap) r xs)) (hd : dstOk n (some d) = true)
    (h : VL P n S w0 ops Q rest ((d, .slice (some ⟨b, 0, none⟩) m cap) :: env) L) :
    VL P n S w0 ops Q ({ dst := some d, op := .convert t t x, type := ty, pos, after := af, guard := none } :: rest) env L :=
  vl_run trivial fun a w hm H => by
    obtain ⟨hl, hh⟩ := H.get hk
    rcases hh with ⟨e1, _⟩ | ⟨b', cap', more, e1, h1, h2, h3, ⟨fz, h4, h5⟩⟩
    · cases e1
    · cases e1
      have hsh : w.shape? b = some (T, (xs ++ more).length) := by simp [World.shape?, h4]
      have hw : (w.freeze ⟨b, (xs ++ more).length, none⟩ 1).heap[b]? = some (.cells (xs ++ more).toArray T (if fz.1 == fz.2 then ((xs ++ more).length, (xs ++ more).length + 1) else (min fz.1 (xs ++ more).length, max fz.2 ((xs ++ more).length + 1)))) := by
        simp only [World.freeze, Nat.one_ne_zero, if_false]
        rw [Array.getElem?_modify]
        simp [h4]
      have hg : w.grownBy (w.freeze ⟨b, (xs ++ more).length, none⟩ 1) (some b) := ⟨rfl, rfl, rfl, by simp [World.freeze], fun j _ hj => by
        simp only [World.freeze, Nat.one_ne_zero, if_false]
        rw [Array.getElem?_modify]
        have : b ≠ j := fun h => hj (by simp [h])
        simp [this]⟩
      have hok : Row (w.freeze ⟨b, (xs ++ more).length, none⟩ 1) T size (.slice (some ⟨b, 0, none⟩) m cap) m xs := by
        refine ⟨hl, .inr ⟨b, cap, more, rfl, h1, h2, h3, ⟨_, hw, ?_⟩⟩⟩
        rcases h5 with h5 | h5
        · rw [if_pos (by simp [h5])]
          exact .inr (Nat.le_refl _)
        · split
          · exact .inr (Nat.le_refl _)
          · right
            show (xs ++ more).length ≤ min fz.1 (xs ++ more).length
            omega
      have H' := H.change hk (r' := .row T size (.slice (some ⟨b, 0, none⟩) m cap) m xs) hg hok (fun _ hb => .inl hb)
      rw [set_self hk] at H'
      refine opw_val (v := .slice (some ⟨b, 0, none⟩) m cap) (w' := w.freeze ⟨b, (xs ++ more).length, none⟩ 1) ?_ (h.run _ _ (hm.put hd _) H')
      simp [execOp, hm.eval hx, convert, run_underlying hu, run_underlying he, markStringish, hsh, Result.andThen]
end
end Go.PBYtabmfndiepmcgaa
end
section
namespace Go.PBYtabmfndiepmcgaa
open Go Go.RowKit
set_option linter.unusedVariables false
set_option maxRecDepth 100000
def edD : Fp := 20800338683988658368647408995589388737092878452977063003340006470870624536394
theorem edD_g : edD * (g24 + 1) = g24 := by decide +kernel
theorem g24_1 : g24 + 1 ≠ 0 := by decide +kernel
theorem two_ne : (2 : Fp) ≠ 0 := by decide +kernel
theorem edD_ns (r : Fp) : r * r ≠ edD := by
  intro h
  have h1 : edD.val ^ ((pN - 1) / 2) % pN = pN - 1 := by
    rw [← pmf_eq pN edD.val (by decide +kernel) 255 ((pN - 1) / 2) (by decide +kernel)]
    decide +kernel
  have hr : r ≠ 0 := by
    intro h0
    rw [h0] at h
    exact absurd h (by decide +kernel)
  have hrv : r.val % pN ≠ 0 := by
    rw [Nat.mod_eq_of_lt r.isLt]
    intro h0
    exact hr (Fin.ext h0)
  have h2 := goP.fermat (by decide +kernel) r.val hrv
  have h3 : edD.val = r.val * r.val % pN := by rw [← h]; rfl
  have h4 : edD.val ^ ((pN - 1) / 2) % pN = 1 := by
    rw [h3, Nat.pow_mod, Nat.mod_mod, ← Nat.pow_mod, ← Nat.pow_two, ← Nat.pow_mul, show 2 * ((pN - 1) / 2) = pN - 1 by decide +kernel]
    exact h2
  rw [h4] at h1
  exact absurd h1 (by decide +kernel)
theorem mul_ne {a b : Fp} (ha : a ≠ 0) (hb : b ≠ 0) : a * b ≠ 0 := by
  intro h
  rcases mul_zero_or h with h | h
  · exact ha h
  · exact hb h
theorem mul_can {k a b : Fp} (hk : k ≠ 0) (h : k * a = k * b) : a = b := by
  have h1 : k * (a - b) = 0 := by grind
  rcases mul_zero_or h1 with h1 | h1
  · exact absurd h1 hk
  · grind
theorem div_eq {a b c d : Fp} (hb : b ≠ 0) (hd : d ≠ 0) (h : a * d = c * b) : a * finv b = c * finv d := by
  have h1 := mul_finv hb
  have h2 := mul_finv hd
  refine mul_can (mul_ne hb hd) ?_
  grind
abbrev Pt := Fp × Fp
def onE (P : Pt) : Prop := P.1 * P.1 + P.2 * P.2 = 1 + edD * P.1 * P.1 * P.2 * P.2
def del (P Q : Pt) : Fp := edD * P.1 * Q.1 * P.2 * Q.2
/-- Edwards' numbers under the line are never 0 -/
theorem del_sq {P Q : Pt} (hP : onE P) (hQ : onE Q) : del P Q * del P Q ≠ 1 := by
  obtain ⟨x1, y1⟩ := P
  obtain ⟨x2, y2⟩ := Q
  unfold onE at hP hQ
  unfold del
  simp only at hP hQ ⊢
  generalize hD : edD = D at hP hQ ⊢
  intro h
  have k1 : D * (x1 * y1) * (x1 * y1) * (x2 * x2 + y2 * y2) = x1 * x1 + y1 * y1 := by grind
  obtain ⟨e, he⟩ : ∃ e, e = D * x1 * x2 * y1 * y2 := ⟨_, rfl⟩
  have he2 : e * e = 1 := by rw [he]; exact h
  have k2 : (x1 + e * y1) * (x1 + e * y1) = D * (x1 * y1 * (x2 + y2)) * (x1 * y1 * (x2 + y2)) := by grind
  have k3 : (x1 - e * y1) * (x1 - e * y1) = D * (x1 * y1 * (x2 - y2)) * (x1 * y1 * (x2 - y2)) := by grind
  have hx : x1 ≠ 0 := by intro h0; subst h0; have := fp_one_ne; grind
  have hy : y1 ≠ 0 := by intro h0; subst h0; have := fp_one_ne; grind
  have hx2 : x2 ≠ 0 := by intro h0; subst h0; have := fp_one_ne; grind
  have key : ∀ s t : Fp, t ≠ 0 → s * s = D * t * t → False := by
    intro s t ht hs
    have h5 := mul_finv ht
    refine edD_ns (s * finv t) ?_
    rw [hD]
    grind
  by_cases h6 : x2 + y2 = 0
  · have h7 : x2 - y2 ≠ 0 := by
      intro h8
      have h9 : 2 * x2 = 0 := by grind
      rcases mul_zero_or h9 with h9 | h9
      · exact two_ne h9
      · exact hx2 h9
    exact key _ _ (mul_ne (mul_ne hx hy) h7) k3
  · exact key _ _ (mul_ne (mul_ne hx hy) h6) k2
theorem del_p {P Q : Pt} (hP : onE P) (hQ : onE Q) : 1 + del P Q ≠ 0 := fun h => del_sq hP hQ (by grind)
theorem del_m {P Q : Pt} (hP : onE P) (hQ : onE Q) : 1 - del P Q ≠ 0 := fun h => del_sq hP hQ (by grind)
def padd (P Q : Pt) : Pt := ((P.1 * Q.2 + P.2 * Q.1) * finv (1 + del P Q), (P.2 * Q.2 - P.1 * Q.1) * finv (1 - del P Q))
theorem padd_x {P Q : Pt} (hP : onE P) (hQ : onE Q) : (padd P Q).1 * (1 + del P Q) = P.1 * Q.2 + P.2 * Q.1 := by
  have := mul_finv (del_p hP hQ)
  unfold padd
  simp only
  grind
theorem padd_y {P Q : Pt} (hP : onE P) (hQ : onE Q) : (padd P Q).2 * (1 - del P Q) = P.2 * Q.2 - P.1 * Q.1 := by
  have := mul_finv (del_m hP hQ)
  unfold padd
  simp only
  grind
theorem t_on (D x1 y1 x2 y2 : Fp) (e1 : x1*x1 + y1*y1 = 1 + D*x1*x1*y1*y1) (e2 : x2*x2 + y2*y2 = 1 + D*x2*x2*y2*y2) (a : Fp) (ha : a = D*x1*x2*y1*y2) :
    (x1*y2+y1*x2)*(x1*y2+y1*x2)*(1-a)*(1-a) + (y1*y2-x1*x2)*(y1*y2-x1*x2)*(1+a)*(1+a) = (1+a)*(1+a)*(1-a)*(1-a) + D*(x1*y2+y1*x2)*(x1*y2+y1*x2)*(y1*y2-x1*x2)*(y1*y2-x1*x2) := by grind
theorem t_assoc (D x1 y1 x2 y2 x3 y3 : Fp) (e1 : x1*x1 + y1*y1 = 1 + D*x1*x1*y1*y1) (e2 : x2*x2 + y2*y2 = 1 + D*x2*x2*y2*y2) (e3 : x3*x3 + y3*y3 = 1 + D*x3*x3*y3*y3) :
    ((x1*y2+y1*x2)*(1-D*x1*x2*y1*y2)*y3 + (y1*y2-x1*x2)*(1+D*x1*x2*y1*y2)*x3) * ((1+D*x2*x3*y2*y3)*(1-D*x2*x3*y2*y3) + D*(x2*y3+y2*x3)*(y2*y3-x2*x3)*x1*y1)
    = (x1*(y2*y3-x2*x3)*(1+D*x2*x3*y2*y3) + y1*(x2*y3+y2*x3)*(1-D*x2*x3*y2*y3)) * ((1+D*x1*x2*y1*y2)*(1-D*x1*x2*y1*y2) + D*(x1*y2+y1*x2)*(y1*y2-x1*x2)*x3*y3) := by grind
theorem t_assocy (D x1 y1 x2 y2 x3 y3 : Fp) (e1 : x1*x1 + y1*y1 = 1 + D*x1*x1*y1*y1) (e2 : x2*x2 + y2*y2 = 1 + D*x2*x2*y2*y2) (e3 : x3*x3 + y3*y3 = 1 + D*x3*x3*y3*y3) :
    ((y1*y2-x1*x2)*(1+D*x1*x2*y1*y2)*y3 - (x1*y2+y1*x2)*(1-D*x1*x2*y1*y2)*x3) * ((1+D*x2*x3*y2*y3)*(1-D*x2*x3*y2*y3) - D*(x2*y3+y2*x3)*(y2*y3-x2*x3)*x1*y1)
    = (y1*(y2*y3-x2*x3)*(1+D*x2*x3*y2*y3) - x1*(x2*y3+y2*x3)*(1-D*x2*x3*y2*y3)) * ((1+D*x1*x2*y1*y2)*(1-D*x1*x2*y1*y2) - D*(x1*y2+y1*x2)*(y1*y2-x1*x2)*x3*y3) := by grind
theorem padd_on {P Q : Pt} (hP : onE P) (hQ : onE Q) : onE (padd P Q) := by
  have hx := padd_x hP hQ
  have hy := padd_y hP hQ
  have h1 := del_p hP hQ
  have h2 := del_m hP hQ
  obtain ⟨⟨s, t⟩, hS⟩ : ∃ S, padd P Q = S := ⟨_, rfl⟩
  obtain ⟨x1, y1⟩ := P
  obtain ⟨x2, y2⟩ := Q
  rw [hS] at hx hy ⊢
  unfold onE at hP hQ ⊢
  have ht := t_on edD x1 y1 x2 y2 hP hQ (del (x1, y1) (x2, y2)) rfl
  simp only at hx hy ⊢
  generalize del (x1, y1) (x2, y2) = a at hx hy h1 h2 ht
  rw [← hx, ← hy] at ht
  have hk := mul_ne (mul_ne h1 h1) (mul_ne h2 h2)
  refine mul_can hk ?_
  clear hP hQ hS hx hy h1 h2 hk
  generalize edD = D at *
  grind
theorem padd_comm (P Q : Pt) : padd P Q = padd Q P := by
  have h : del P Q = del Q P := by unfold del; grind
  unfold padd
  rw [h]
  congr 1
  · congr 1; grind
  · congr 1; grind
def pO : Pt := (0, 1)
theorem pO_on : onE pO := by unfold onE pO; grind
theorem finv_one : finv 1 = 1 := finv_unique (by grind)
theorem padd_O (P : Pt) : padd P pO = P := by
  have h : del P pO = 0 := by unfold del pO; grind
  unfold padd
  rw [h, show (1 : Fp) + 0 = 1 by decide +kernel, show (1 : Fp) - 0 = 1 by decide +kernel, finv_one]
  unfold pO
  obtain ⟨x, y⟩ := P
  simp only
  congr 1
  · grind
  · grind
def pneg (P : Pt) : Pt := (-P.1, P.2)
theorem pneg_on {P : Pt} (h : onE P) : onE (pneg P) := by unfold onE pneg at *; simp only; grind
theorem padd_neg {P : Pt} (h : onE P) : padd P (pneg P) = pO := by
  have hx := padd_x h (pneg_on h)
  have hy := padd_y h (pneg_on h)
  have h1 := del_p h (pneg_on h)
  have h2 := del_m h (pneg_on h)
  have e1 : (padd P (pneg P)).1 = 0 := by
    refine mul_can h1 ?_
    unfold pneg at *
    simp only at *
    grind
  have e2 : (padd P (pneg P)).2 = 1 := by
    refine mul_can h2 ?_
    unfold onE at h
    unfold del pneg at *
    simp only at *
    grind
  exact Prod.ext e1 e2
theorem padd_assoc {P Q R : Pt} (hP : onE P) (hQ : onE Q) (hR : onE R) : padd (padd P Q) R = padd P (padd Q R) := by
  have hS := padd_on hP hQ
  have hT := padd_on hQ hR
  have sx := padd_x hP hQ
  have sy := padd_y hP hQ
  have tx := padd_x hQ hR
  have ty := padd_y hQ hR
  have a1 := del_p hP hQ
  have a2 := del_m hP hQ
  have b1 := del_p hQ hR
  have b2 := del_m hQ hR
  have c1 := del_p hS hR
  have c2 := del_m hS hR
  have d1 := del_p hP hT
  have d2 := del_m hP hT
  rw [show padd (padd P Q) R = (((padd P Q).1 * R.2 + (padd P Q).2 * R.1) * finv (1 + del (padd P Q) R), ((padd P Q).2 * R.2 - (padd P Q).1 * R.1) * finv (1 - del (padd P Q) R)) from rfl,
    show padd P (padd Q R) = ((P.1 * (padd Q R).2 + P.2 * (padd Q R).1) * finv (1 + del P (padd Q R)), (P.2 * (padd Q R).2 - P.1 * (padd Q R).1) * finv (1 - del P (padd Q R))) from rfl]
  generalize padd P Q = S at *
  generalize padd Q R = T at *
  obtain ⟨x1, y1⟩ := P
  obtain ⟨x2, y2⟩ := Q
  obtain ⟨x3, y3⟩ := R
  obtain ⟨s, t⟩ := S
  obtain ⟨u, v⟩ := T
  have kx := t_assoc edD x1 y1 x2 y2 x3 y3 hP hQ hR
  have ky := t_assocy edD x1 y1 x2 y2 x3 y3 hP hQ hR
  clear hP hQ hR hS hT
  unfold del at *
  simp only at *
  generalize edD = D at *
  rw [← sx, ← sy, ← tx, ← ty] at kx ky
  have hk := mul_ne (mul_ne a1 a2) (mul_ne b1 b2)
  generalize D * x1 * x2 * y1 * y2 = a at *
  generalize D * x2 * x3 * y2 * y3 = b at *
  congr 1
  · refine div_eq c1 d1 (mul_can hk ?_)
    clear ky sx sy tx ty a1 a2 b1 b2 c1 c2 d1 d2 hk
    grind
  · refine div_eq c2 d2 (mul_can hk ?_)
    clear kx sx sy tx ty a1 a2 b1 b2 c1 c2 d1 d2 hk
    grind
/-! ### so many times a point -/
def pmul : Nat → Pt → Pt
  | 0, _ => pO
  | k + 1, P => padd (pmul k P) P
theorem pmul_on {P : Pt} (h : onE P) : ∀ k, onE (pmul k P)
  | 0 => pO_on
  | k + 1 => padd_on (pmul_on h k) h
theorem pmul_add {P : Pt} (h : onE P) (i : Nat) : ∀ j, pmul (i + j) P = padd (pmul i P) (pmul j P)
  | 0 => by rw [Nat.add_zero, pmul, padd_O]
  | j + 1 => by
    show padd (pmul (i + j) P) P = padd (pmul i P) (padd (pmul j P) P)
    rw [pmul_add h i j, padd_assoc (pmul_on h i) (pmul_on h j) h]
theorem pmul_mul {P : Pt} (h : onE P) (j : Nat) : ∀ i, pmul (i * j) P = pmul i (pmul j P)
  | 0 => by rw [Nat.zero_mul]; rfl
  | i + 1 => by rw [Nat.succ_mul, pmul_add h, pmul_mul h j i]; rfl
theorem pmul_O : ∀ k, pmul k pO = pO
  | 0 => rfl
  | k + 1 => by rw [pmul, pmul_O k, padd_O]
theorem pmul_one (P : Pt) : pmul 1 P = P := by
  show padd pO P = P
  rw [padd_comm, padd_O]
end Go.PBYtabmfndiepmcgaa
end
section
namespace Go.PBYtabmfndiepmcgaa
open Go Go.RowKit
set_option linter.unusedVariables false
set_option maxRecDepth 100000
/-- the number of a point by its second coordinate -/
def mu (y : Fp) : Fp := (1 + y) * finv (1 - y)
/-- a over c stands for the number of the point -/
def rel (a c y : Fp) : Prop := ¬ (a = 0 ∧ c = 0) ∧ a * (1 - y) = c * (1 + y)
theorem rel_par {a c y : Fp} (h : rel a c y) : ∃ t, t ≠ 0 ∧ a = t * (1 + y) ∧ c = t * (1 - y) := by
  obtain ⟨h1, h2⟩ := h
  have h3 := mul_finv two_ne
  refine ⟨(a + c) * finv 2, ?_, ?_, ?_⟩
  · intro h0
    rcases mul_zero_or h0 with h0 | h0
    · have e1 : 2 * a = 0 := by grind
      rcases mul_zero_or e1 with e1 | e1
      · exact two_ne e1
      · exact h1 ⟨e1, by grind⟩
    · exact finv_ne two_ne h0
  · refine mul_can two_ne ?_; grind
  · refine mul_can two_ne ?_; grind
theorem rel_mu {a c y : Fp} (h : rel a c y) : a * finv c = mu y := by
  obtain ⟨t, ht, ha, hc⟩ := rel_par h
  unfold mu
  by_cases h1 : 1 - y = 0
  · rw [h1, hc, h1, finv_zero, show t * 0 = 0 by grind, finv_zero]; grind
  · have hc0 : c ≠ 0 := by rw [hc]; exact mul_ne ht h1
    exact div_eq hc0 h1 (by grind)
theorem mu_rel {y : Fp} (h1 : 1 - y ≠ 0) : rel (mu y) 1 y := by
  refine ⟨fun h => fp_one_ne h.2, ?_⟩
  have := mul_finv h1
  unfold mu
  grind
theorem dbl_key {X y : Fp} (h : onE (X, y)) : (1 - X * X) * (1 + g24 * (1 - y * y)) = y * y := by
  have hg := edD_g
  unfold onE at h
  simp only at h
  generalize edD = D at h hg
  generalize g24 = g at hg ⊢
  grind
theorem rel_dbl {P : Pt} {a c : Fp} (hP : onE P) (h : rel a c P.2) :
    rel ((a + c) * (a + c) * ((a - c) * (a - c))) (((a + c) * (a + c) - (a - c) * (a - c)) * ((a + c) * (a + c) + g24 * ((a + c) * (a + c) - (a - c) * (a - c)))) (padd P P).2 := by
  have hy := padd_y hP hP
  have hd := del_m hP hP
  obtain ⟨X, y⟩ := P
  have hk := dbl_key hP
  obtain ⟨t, ht, ha, hc⟩ := rel_par h
  generalize (padd (X, y) (X, y)).2 = z at *
  have hdel : del (X, y) (X, y) = X * X + y * y - 1 := by unfold onE at hP; unfold del; simp only at *; grind
  rw [hdel] at hy hd
  simp only at hy ha hc hk
  clear h
  have hD : X * X + y * y = 1 + edD * X * X * y * y := hP
  clear hP hdel
  generalize hg : g24 = g at *
  have h2 := two_ne
  have ea : (a + c) * (a + c) * ((a - c) * (a - c)) = 16 * (t * t * (t * t)) * (y * y) := by rw [ha, hc]; grind
  have ec : ((a + c) * (a + c) - (a - c) * (a - c)) * ((a + c) * (a + c) + g * ((a + c) * (a + c) - (a - c) * (a - c))) = 16 * (t * t * (t * t)) * ((1 - y * y) * (1 + g * (1 - y * y))) := by rw [ha, hc]; grind
  rw [ea, ec]
  have h16 : (16 : Fp) ≠ 0 := by decide +kernel
  have ht4 : 16 * (t * t * (t * t)) ≠ 0 := mul_ne h16 (mul_ne (mul_ne ht ht) (mul_ne ht ht))
  generalize 16 * (t * t * (t * t)) = k at ht4 ⊢
  refine ⟨?_, ?_⟩
  · rintro ⟨z1, z2⟩
    rcases mul_zero_or z1 with z1 | z1
    · exact ht4 z1
    · rw [z1] at z2
      rcases mul_zero_or z2 with z2 | z2
      · exact ht4 z2
      · have := g24_1
        rw [hg] at this
        exact this (by grind)
  · refine mul_can hd ?_
    clear ea ec ha hc ht
    have e1 : (1 - z) * (1 - (X * X + y * y - 1)) = 2 * (1 - y * y) := by grind
    have e2 : (1 + z) * (1 - (X * X + y * y - 1)) = 2 * (1 - X * X) := by grind
    generalize 1 - (X * X + y * y - 1) = m at *
    have e3 : m * (k * (y * y) * (1 - z)) = k * (y * y) * (2 * (1 - y * y)) := by rw [← e1]; grind
    have e4 : m * (k * ((1 - y * y) * (1 + g * (1 - y * y))) * (1 + z)) = k * ((1 - y * y) * (1 + g * (1 - y * y))) * (2 * (1 - X * X)) := by rw [← e2]; grind
    rw [e3, e4]
    clear e1 e2 e3 e4 hy
    grind
theorem t_dif (D X2 y2 X3 y3 : Fp) (e2 : X2 * X2 + y2 * y2 = 1 + D * X2 * X2 * y2 * y2) (e3 : X3 * X3 + y3 * y3 = 1 + D * X3 * X3 * y3 * y3) (a : Fp) (ha : a = D * X2 * X3 * y2 * y3) :
    (1 - a + y2 * y3 - X2 * X3) * (1 + a + y2 * y3 + X2 * X3) * ((y2 - y3) * (y2 - y3)) = (1 - a - y2 * y3 + X2 * X3) * (1 + a - y2 * y3 - X2 * X3) * ((y2 + y3) * (y2 + y3)) := by grind
theorem r_sub4 {z v e y2 y3 X2 X3 : Fp} (sy : z * (1 - e) = y2 * y3 - X2 * X3) (ty : v * (1 - -e) = y2 * y3 - X2 * -X3) :
    (1 - z) * (1 - e) = 1 - e - y2 * y3 + X2 * X3 ∧ (1 + z) * (1 - e) = 1 - e + y2 * y3 - X2 * X3 ∧ (1 - v) * (1 + e) = 1 + e - y2 * y3 - X2 * X3 ∧ (1 + v) * (1 + e) = 1 + e + y2 * y3 + X2 * X3 := by
  refine ⟨?_, ?_, ?_, ?_⟩
  · clear ty; grind
  · clear ty; grind
  · clear sy; grind
  · clear sy; grind
theorem on_y0 {X y D : Fp} (h : X * X + y * y = 1 + D * X * X * y * y) (hy : y = 0) : X * X = 1 := by
  have h1 : X * X - 1 = y * (D * X * X * y - y) := by grind
  have h2 : X * X - 1 = 0 := by rw [h1]; generalize D * X * X * y - y = k; rw [hy]; grind
  clear h h1
  grind
theorem rel_dif {P Q : Pt} {a b c d x : Fp} (hP : onE P) (hQ : onE Q) (h1 : rel a c P.2) (h2 : rel b d Q.2)
    (hx : x * (1 - (padd P (pneg Q)).2) = 1 + (padd P (pneg Q)).2) (hm : 1 - (padd P (pneg Q)).2 ≠ 0) (hp : 1 + (padd P (pneg Q)).2 ≠ 0) :
    rel (((b - d) * (a + c) + (b + d) * (a - c)) * ((b - d) * (a + c) + (b + d) * (a - c))) (x * (((b - d) * (a + c) - (b + d) * (a - c)) * ((b - d) * (a + c) - (b + d) * (a - c)))) (padd P Q).2 := by
  have sy := padd_y hP hQ
  have ty := padd_y hP (pneg_on hQ)
  have n1 := del_m hP hQ
  have n2 := del_p hP hQ
  generalize (padd P (pneg Q)).2 = v at *
  generalize (padd P Q).2 = z at *
  obtain ⟨X2, y2⟩ := P
  obtain ⟨X3, y3⟩ := Q
  have hdn : del (X2, y2) (pneg (X3, y3)) = - del (X2, y2) (X3, y3) := by unfold del pneg; simp only; grind
  rw [hdn] at ty
  unfold pneg at ty
  simp only at sy ty h1 h2
  obtain ⟨t, ht, ha, hc⟩ := rel_par h1
  obtain ⟨s, hs, hb, hd⟩ := rel_par h2
  have key := t_dif edD X2 y2 X3 y3 hP hQ _ (rfl : del (X2, y2) (X3, y3) = _)
  clear h1 h2
  have dq : del (X2, y2) (X3, y3) = edD * X2 * X3 * y2 * y3 := rfl
  have o2 : X2 * X2 + y2 * y2 = 1 + edD * X2 * X2 * y2 * y2 := hP
  have o3 : X3 * X3 + y3 * y3 = 1 + edD * X3 * X3 * y3 * y3 := hQ
  clear hP hQ hdn
  generalize del (X2, y2) (X3, y3) = e at *
  have h4 : (4 : Fp) ≠ 0 := by decide +kernel
  have hk := mul_ne h4 (mul_ne ht hs)
  have ea : (b - d) * (a + c) + (b + d) * (a - c) = 4 * (t * s) * (y2 + y3) := by rw [ha, hb, hc, hd]; grind
  have ec : (b - d) * (a + c) - (b + d) * (a - c) = 4 * (t * s) * (y3 - y2) := by rw [ha, hb, hc, hd]; grind
  rw [ea, ec]
  clear ea ec ha hb hc hd ht hs
  generalize 4 * (t * s) = k at hk ⊢
  have hx0 : x ≠ 0 := by
    rintro rfl
    exact hp (by grind)
  refine ⟨?_, ?_⟩
  · rintro ⟨z1, z2⟩
    have w1 : y2 + y3 = 0 := by
      rcases mul_zero_or z1 with q | q
      · rcases mul_zero_or q with q | q
        · exact absurd q hk
        · exact q
      · rcases mul_zero_or q with q | q
        · exact absurd q hk
        · exact q
    have w2 : y3 - y2 = 0 := by
      rcases mul_zero_or z2 with q | q
      · exact absurd q hx0
      rcases mul_zero_or q with q | q
      · rcases mul_zero_or q with q | q
        · exact absurd q hk
        · exact q
      · rcases mul_zero_or q with q | q
        · exact absurd q hk
        · exact q
    have w3 : 2 * y2 = 0 := by grind
    have w4 : y2 = 0 := by
      rcases mul_zero_or w3 with q | q
      · exact absurd q two_ne
      · exact q
    have w5 : y3 = 0 := by grind
    have q3 := on_y0 o2 w4
    have q4 := on_y0 o3 w5
    subst w4 w5
    clear key n1 n2 sy z1 z2 w1 w2 w3
    have q1 : v = X2 * X3 := by grind
    have q2 : (1 - v) * (1 + v) = 0 := by
      rw [show (1 - v) * (1 + v) = 1 - v * v by clear hx hm hp ty q1 q3 q4 dq o2 o3 hk hx0; grind, q1, show X2 * X3 * (X2 * X3) = X2 * X2 * (X3 * X3) by clear hx hm hp ty q1 q3 q4 dq o2 o3 hk hx0; grind, q3, q4]
      decide +kernel
    rcases mul_zero_or q2 with q2 | q2
    · exact hm q2
    · exact hp q2
  · obtain ⟨f1, f2, f3, f4⟩ := r_sub4 sy ty
    rw [← f1, ← f2, ← f3, ← f4] at key
    refine mul_can (mul_ne (mul_ne hm n1) n2) ?_
    have n3 : 1 + e ≠ 0 := n2
    clear f1 f2 f3 f4 sy ty o2 o3 dq n2 n3 hp hm hx0 hk
    generalize 1 - e = m1 at *
    generalize 1 + e = m2 at *
    clear n1
    have r1 : (1 - v) * m1 * m2 * (k * (y2 + y3) * (k * (y2 + y3)) * (1 - z)) = k * k * ((1 - z) * m1 * ((1 - v) * m2) * ((y2 + y3) * (y2 + y3))) := by clear hx key; grind
    have r2 : (1 - v) * m1 * m2 * (x * (k * (y3 - y2) * (k * (y3 - y2))) * (1 + z)) = k * k * ((1 + z) * m1 * (x * (1 - v) * m2) * ((y2 - y3) * (y2 - y3))) := by clear hx key r1; grind
    rw [r1, r2, ← key, hx]
end Go.PBYtabmfndiepmcgaa
end
section
namespace Go.PBYtabmfndiepmcgaa
open Go Go.RowKit
set_option linter.unusedVariables false
set_option maxRecDepth 100000
theorem pneg_add (P Q : Pt) : pneg (padd P Q) = padd (pneg P) (pneg Q) := by
  have h : del (pneg P) (pneg Q) = del P Q := by unfold del pneg; simp only; grind
  unfold padd
  rw [h]
  unfold pneg
  simp only
  congr 1
  · grind
  · congr 1; grind
theorem pO_add (P : Pt) : padd pO P = P := by rw [padd_comm, padd_O]
theorem dif_up {P Q : Pt} (hP : onE P) (hQ : onE Q) : padd P (pneg (padd P Q)) = pneg Q := by
  rw [pneg_add, ← padd_assoc hP (pneg_on hP) (pneg_on hQ), padd_neg hP, pO_add]
theorem dif_dn {P Q : Pt} (hP : onE P) (hQ : onE Q) : padd (padd P Q) (pneg P) = Q := by
  rw [padd_comm P Q, padd_assoc hQ hP (pneg_on hP), padd_neg hP, padd_O]
theorem pmul_two {Q : Pt} (hQ : onE Q) (n : Nat) : pmul (2 * n) Q = padd (pmul n Q) (pmul n Q) := by rw [Nat.two_mul, pmul_add hQ]
theorem pmul_two1 {Q : Pt} (hQ : onE Q) (n : Nat) : pmul (2 * n + 1) Q = padd (pmul n Q) (pmul (n + 1) Q) := by rw [show 2 * n + 1 = n + (n + 1) by omega, pmul_add hQ]
/-- so much do the bits come to -/
def vb (s : Nat → Bool) : Nat → Nat
  | 0 => 0
  | j + 1 => 2 * vb s j + (if s (254 - j) then 1 else 0)
def rel4 (q : Fp × Fp × Fp × Fp) (y z : Fp) : Prop := rel q.1 q.2.2.1 y ∧ rel q.2.1 q.2.2.2 z
abbrev stepF (x : Fp) := stepC (fun a b : Fp => a + b) (fun a b => a - b) (fun a b => a * b) x g24
theorem step_up {Q : Pt} {x : Fp} (hQ : onE Q) (hx : rel x 1 Q.2) (hm : 1 - Q.2 ≠ 0) (hp : 1 + Q.2 ≠ 0) {n : Nat} {q : Fp × Fp × Fp × Fp} (h : rel4 q (pmul n Q).2 (pmul (n + 1) Q).2) :
    rel4 (stepF x q) (pmul (2 * n) Q).2 (pmul (2 * n + 1) Q).2 := by
  obtain ⟨a, b, c, d⟩ := q
  have hd : (padd (pmul n Q) (pneg (pmul (n + 1) Q))).2 = Q.2 := by
    show (padd (pmul n Q) (pneg (padd (pmul n Q) Q))).2 = Q.2
    rw [dif_up (pmul_on hQ n) hQ]; rfl
  refine ⟨?_, ?_⟩
  · rw [pmul_two hQ]; exact rel_dbl (pmul_on hQ n) h.1
  · rw [pmul_two1 hQ]
    refine rel_dif (pmul_on hQ n) (pmul_on hQ (n + 1)) h.1 h.2 ?_ ?_ ?_
    · rw [hd, hx.2]; grind
    · rw [hd]; exact hm
    · rw [hd]; exact hp
theorem step_dn {Q : Pt} {x : Fp} (hQ : onE Q) (hx : rel x 1 Q.2) (hm : 1 - Q.2 ≠ 0) (hp : 1 + Q.2 ≠ 0) {n : Nat} {q : Fp × Fp × Fp × Fp} (h : rel4 q (pmul (n + 1) Q).2 (pmul n Q).2) :
    rel4 (stepF x q) (pmul (2 * n + 2) Q).2 (pmul (2 * n + 1) Q).2 := by
  obtain ⟨a, b, c, d⟩ := q
  have hd : (padd (pmul (n + 1) Q) (pneg (pmul n Q))).2 = Q.2 := by
    show (padd (padd (pmul n Q) Q) (pneg (pmul n Q))).2 = Q.2
    rw [dif_dn (pmul_on hQ n) hQ]
  refine ⟨?_, ?_⟩
  · rw [show 2 * n + 2 = 2 * (n + 1) by omega, pmul_two hQ]; exact rel_dbl (pmul_on hQ (n + 1)) h.1
  · rw [pmul_two1 hQ, padd_comm]
    refine rel_dif (pmul_on hQ (n + 1)) (pmul_on hQ n) h.1 h.2 ?_ ?_ ?_
    · rw [hd, hx.2]; grind
    · rw [hd]; exact hm
    · rw [hd]; exact hp
theorem beg_rel {Q : Pt} {x : Fp} (hx : rel x 1 Q.2) : rel4 (beg x) (pmul 0 Q).2 (pmul 1 Q).2 := by
  refine ⟨⟨fun h => fp_one_ne h.1, ?_⟩, ?_⟩
  · show (1 : Fp) * (1 - 1) = 0 * (1 + 1); decide +kernel
  · rw [pmul_one]; exact hx
theorem lad_rel {Q : Pt} {x : Fp} (hQ : onE Q) (hx : rel x 1 Q.2) (hm : 1 - Q.2 ≠ 0) (hp : 1 + Q.2 ≠ 0) (s : Nat → Bool) : ∀ j, rel4 (ladF x g24 s (beg x) j) (pmul (vb s j) Q).2 (pmul (vb s j + 1) Q).2
  | 0 => beg_rel hx
  | j + 1 => by
    have ih := lad_rel hQ hx hm hp s j
    unfold ladF at ih ⊢
    rw [ladC, vb]
    generalize ladC (fun a b : Fp => a + b) (fun a b => a - b) (fun a b => a * b) x g24 s (beg x) j = q at ih ⊢
    cases hb : s (254 - j)
    · exact step_up hQ hx hm hp ih
    · obtain ⟨a, b, c, d⟩ := q
      have := step_dn (q := (b, a, d, c)) hQ hx hm hp ⟨ih.2, ih.1⟩
      exact ⟨this.2, this.1⟩
theorem mu_one : mu 1 = 0 := by
  unfold mu
  rw [show (1 : Fp) - 1 = 0 by decide +kernel, finv_zero]; decide +kernel
theorem edD_1 : 1 - edD ≠ 0 := by decide +kernel
theorem x_zero {P : Pt} (hP : onE P) (h : P.2 * P.2 = 1) : P.1 = 0 := by
  obtain ⟨X, y⟩ := P
  have h1 : X * X + y * y = 1 + edD * X * X * y * y := hP
  have h2 := edD_1
  simp only at h ⊢
  have h3 : (1 - edD) * (X * X) = 0 := by clear h2 hP; generalize edD = D at *; grind
  rcases mul_zero_or h3 with h3 | h3
  · exact absurd h3 h2
  · rcases mul_zero_or h3 with h3 | h3 <;> exact h3
theorem two_half : padd (0, -1) (0, -1) = pO := by
  unfold padd
  rw [show del (0, -1) (0, -1) = 0 by decide +kernel, show (1 : Fp) + 0 = 1 by decide +kernel, show (1 : Fp) - 0 = 1 by decide +kernel, finv_one]
  decide +kernel
theorem vb_even {s : Nat → Bool} (h0 : s 0 = false) : ∃ m, vb s 255 = m * 2 := ⟨vb s 254, by rw [show (255 : Nat) = 254 + 1 from rfl, vb, show 254 - 254 = 0 from rfl, h0]; simp; omega⟩
/-- the ladder tells the number of so many times the point -/
theorem xm_mu {Q : Pt} (hQ : onE Q) {s : Nat → Bool} (h0 : s 0 = false) : xm s (mu Q.2) = mu (pmul (vb s 255) Q).2 := by
  by_cases hm : 1 - Q.2 = 0
  · have hy : Q.2 = 1 := by grind
    have hx := x_zero hQ (by rw [hy]; decide +kernel)
    have hq : Q = pO := Prod.ext hx hy
    rw [hq, pmul_O]
    show xm s (mu 1) = mu 1
    rw [mu_one, xm_zero]
  by_cases hp : 1 + Q.2 = 0
  · have hy : Q.2 = -1 := by grind
    have hx := x_zero hQ (by rw [hy]; decide +kernel)
    have hq : Q = (0, -1) := Prod.ext hx hy
    obtain ⟨n, hn⟩ := vb_even h0
    have h2 : pmul 2 Q = pO := by
      show padd (padd pO Q) Q = pO
      rw [pO_add, hq, two_half]
    rw [hn, pmul_mul hQ, h2, pmul_O]
    have : mu Q.2 = 0 := by unfold mu; rw [hp]; grind
    rw [this, xm_zero]
    exact mu_one.symm
  · have h := lad_rel hQ (mu_rel hm) hm hp s 255
    exact rel_mu h.1
/-! ### the base point -/
def pB : Pt := (9771384041963202563870679428059935816164187996444183106833894008023910952347, 46316835694926478169428394003475163141307993866256225615783033603165251855960)
theorem pB_on : onE pB := by unfold onE; decide +kernel
theorem pB_mu : mu pB.2 = fz 9 := by
  have h : finv (1 - pB.2) = 5 := finv_unique (by decide +kernel)
  unfold mu
  rw [h]
  decide +kernel
theorem sbit_zero (k : List UInt8) : sbit k 0 = false := rfl
/-- a secret's number -/
def kv (k : List UInt8) : Nat := vb (sbit k) 255
theorem xm_base (k : List UInt8) : xm (sbit k) (fz 9) = mu (pmul (kv k) pB).2 := by
  rw [← pB_mu, xm_mu pB_on (sbit_zero k)]; rfl
theorem xm_pt (k : List UInt8) (n : Nat) : xm (sbit k) (mu (pmul n pB).2) = mu (pmul (kv k * n) pB).2 := by
  rw [xm_mu (pmul_on pB_on n) (sbit_zero k), ← pmul_mul pB_on]; rfl
theorem xm_two (k l : List UInt8) : xm (sbit k) (xm (sbit l) (fz 9)) = xm (sbit l) (xm (sbit k) (fz 9)) := by
  rw [xm_base, xm_base, xm_pt, xm_pt, Nat.mul_comm]
end Go.PBYtabmfndiepmcgaa
end
section
namespace Go.Proofs.Ytabmfndiepmcgaa
open Go.RowKit Go.PBYtabmfndiepmcgaa
set_option linter.unusedVariables false
set_option linter.unusedSimpArgs false
set_option maxRecDepth 10000
/-- the hash of bytes -/
def sumB (b : List UInt8) : List UInt8 := macB [] b
theorem sumB_length (b : List UInt8) : (sumB b).length = 32 := macB_length _ _
/-- a secret's public key -/
def pubB (k : List UInt8) : List UInt8 := kf (xm (sbit k) (lf (smallB 9)))
theorem pubB_length (k : List UInt8) : (pubB k).length = 32 := kf_length _
def comB (k p : List UInt8) : List UInt8 := kf (xm (sbit k) (lf p))
theorem comB_length (k p : List UInt8) : (comB k p).length = 32 := kf_length _
/-- a seed's pair -/
def pairB (b : List UInt8) : List UInt8 := sumB b ++ pubB (sumB b)
theorem pairB_length (b : List UInt8) : (pairB b).length = 64 := by rw [pairB, List.length_append, sumB_length, pubB_length]
theorem rsum_calls (b : List UInt8) (B : Option Addr) (m cb : Nat) (hm : m = b.length) (hb : b.length ≤ 1000000) (w : World) (hB : SlAt w B (bys b)) (hcb : b.length ≤ cb) :
    Calls Try.prog 21 #[.slice B m cb] w fun e w' => e = .returned (.agg (bys (sumB b)).toArray) ∧ Kept [] w w' := by
  subst hm
  obtain ⟨s, hs⟩ : ∃ s, sumB b = s := ⟨_, rfl⟩
  have ls : s.length = 32 := by rw [← hs]; exact sumB_length b
  have hs' : macB [] b = s := hs
  rw [hs]
  refine enter (n := 11) (R := fun e L => e = .returned (.agg (bys s).toArray)) [.slice B b.length cb] Try.func21 rfl rfl rfl (St.refl w) ?_ (fun e w' L' h H => ⟨h, H.kept⟩)
  refine VC_seq ?_
  refine VC_region ?_
  refine l_allocA zr23 rfl ?_
  intro b2
  refine vl_nil ?_
  refine (th_n ?_)
  refine VC_seq ?_
  refine VC_region ?_
  refine vl_v (q_move rfl) rfl ?_
  refine vl_v (q_callV Try.func30 rfl rfl rfl (fun w1 H1 => hs' ▸ rmac0_calls b B cb hb w1 (H1.sl0 hB) hcb)) rfl ?_
  refine vl_v (q_move rfl) rfl ?_
  refine vl_v (q_ext rfl rfl) rfl ?_
  refine vl_v (q_ext rfl rfl) rfl ?_
  refine l_allocA zr23 rfl ?_
  intro b3
  refine l_storeA 0 rfl rfl rfl sz23 (by simp only [zb, zu, zw, zi, za]; omega) (by with_reducible first | exact bys_one _ | exact u32s_one _ | exact u64s_one _ | exact i64s_one _ | exact n64s_one _ | assumption) (by simp only [zs, zr, zm, za, zb, zu, zw, zi, zt, zd, zc, zn, *] <;> first | done | omega) ?_
  simp only [List.set_cons_zero, List.set_cons_succ]
  refine vl_v (q_assign rfl) rfl ?_
  refine vl_nil ?_
  refine (th_n ?_)
  refine VC_seq ?_
  refine VC_region ?_
  refine vl_v (q_loads 0 Try.underlying23 rfl rfl rfl sz23 (by simp only [zb, zu, zw, zi, za]; omega)) rfl ?_
  refine l_storeA 1 rfl rfl rfl sz23 (by simp only [zb, zu, zw, zi, za]; omega) (by with_reducible first | exact bys_one _ | exact u32s_one _ | exact u64s_one _ | exact i64s_one _ | exact n64s_one _ | assumption) (by simp only [zs, zr, zm, za, zb, zu, zw, zi, zt, zd, zc, zn, *] <;> first | done | omega) ?_
  simp only [List.set_cons_zero, List.set_cons_succ]
  refine vl_nil ?_
  refine (th_n ?_)
  refine VC_ret ?_
  refine ⟨_, resC1 1 rfl Try.underlying23 rfl rfl rfl sz23 (by simp only [zb, zu, zw, zi, za]; omega), ?_⟩
  exact rfl
set_option maxHeartbeats 1000000 in
theorem rpair_calls (b : List UInt8) (B : Option Addr) (m cb : Nat) (hm : m = b.length) (hb : b.length ≤ 1000000) (w : World) (hB : SlAt w B (bys b)) (hcb : b.length ≤ cb) :
    Calls Try.prog 14 #[.slice B m cb] w fun e w' => e = .returned (.agg (bys (pairB b)).toArray) ∧ Kept [] w w' := by
  have hsc := fun w hs => rsum_calls b B m cb hm hb w hs hcb
  have hp : pairB b = sumB b ++ pubB (sumB b) := rfl
  obtain ⟨s, hs⟩ : ∃ s, sumB b = s := ⟨_, rfl⟩
  have ls : s.length = 32 := by rw [← hs]; exact sumB_length b
  rw [hs] at hsc hp
  unfold pubB at hp
  obtain ⟨p, hpp⟩ : ∃ p, kf (xm (sbit s) (lf (smallB 9))) = p := ⟨_, rfl⟩
  have lp : p.length = 32 := by rw [← hpp]; exact kf_length _
  rw [hpp] at hp
  rw [hp]
  have l64 : (bys (s ++ p)).length = 64 := by rw [bys_length, List.length_append]; omega
  refine enter (n := 10) (R := fun e L => e = .returned (.agg (bys (s ++ p)).toArray)) [.slice B m cb] Try.func14 rfl rfl rfl (St.refl w) ?_ (fun e w' L' h H => ⟨h, H.kept⟩)
  refine VC_seq ?_
  refine VC_region ?_
  refine l_allocA zr25 rfl ?_
  intro b2
  refine vl_nil ?_
  refine (th_n ?_)
  refine VC_seq ?_
  refine VC_region ?_
  refine vl_v (q_move rfl) rfl ?_
  refine vl_v (q_callV Try.func21 rfl rfl rfl (fun w1 H1 => hsc w1 (H1.sl0 hB))) rfl ?_
  refine l_allocA zr23 rfl ?_
  intro b3
  refine l_storeA 0 rfl rfl rfl sz23 (by rw [bys_length]; omega) (by with_reducible first | exact bys_one _ | exact u32s_one _ | exact u64s_one _ | exact i64s_one _ | exact n64s_one _ | assumption) (by simp only [List.length_append, List.length_replicate, bys_length, ls, lp]; done) ?_
  simp only [List.set_cons_zero, List.set_cons_succ]
  refine vl_nil ?_
  refine (th_n ?_)
  refine VC_seq ?_
  refine VC_drawV 3 [[], [], [1], [0, 2], [3, 2, 0, 1]] [[], [], [1], [0, 1, 2], [0, 1, 2, 3]] rfl (by kernel_rfl) ?_
  refine qv_v (q_loads 0 Try.underlying23 rfl rfl rfl sz23 (by rw [bys_length]; omega)) ?_
  refine qv_v (q_loads 0 Try.underlying23 rfl rfl rfl sz23 (by rw [bys_length]; omega)) ?_
  refine qv_v (q_callV Try.func22 rfl rfl rfl (fun w1 H1 => rbase_calls s p ls hpp w1)) ?_
  refine qv_end ?_
  refine VL.keep (Sub.cons (s := 0) rfl (Sub.cons (s := 2) rfl (Sub.cons (s := 3) rfl (Sub.cons (s := 6) rfl (Sub.cons (s := 8) rfl (Sub.nil _)))))) ?_
  refine vl_v (q_buildS (tot := 64) (sizes := [32, 32]) (c' := bys (s ++ p)) (by kernel_rfl) rfl rfl rfl rfl (by simp only [List.map_cons, List.map_nil, cellsL, Value.cells, bys_length, ls, lp]) (by simp only [flatV, cellsL, Value.cells, List.map_cons, List.map_nil, List.flatten_cons, List.flatten_nil, List.append_nil, bys_append])) rfl ?_
  refine l_storeA 1 rfl rfl rfl sz25 (by with_reducible assumption) (by with_reducible first | exact bys_one _ | exact u32s_one _ | exact u64s_one _ | exact i64s_one _ | exact n64s_one _ | assumption) (by simp only [List.length_append, List.length_replicate, bys_length, ls, lp]; done) ?_
  simp only [List.set_cons_zero, List.set_cons_succ]
  refine vl_nil ?_
  refine (qn_n (th_n ?_))
  refine VC_ret ?_
  refine ⟨_, resC1 1 rfl Try.underlying25 rfl rfl rfl sz25 (by with_reducible assumption), ?_⟩
  exact rfl
theorem laid08 : laidOutB Try.prog = true := by kernel_rfl
/-- what is told of it: 12, if it is nothing -/
def comE (k : List UInt8) : Nat := if k = List.replicate 32 0 then 12 else 0
set_option maxHeartbeats 1000000 in
theorem com_calls (s p q : List UInt8) (hs : s.length = 32) (hp : p.length = 32) (hq : q.length = 32) (w : World) :
    Calls Try.prog 24 #[.agg (bys (s ++ p)).toArray, .agg (bys q).toArray] w fun e w' => e = .returned (.tuple #[.agg (bys (comB s q)).toArray, vN (comE (comB s q))]) ∧ Kept [] w w' := by
  have hmc := fun w => mult_calls s q hs hq w
  have e : comB s q = kf (xm (sbit s) (lf q)) := rfl
  rw [e]
  obtain ⟨k, hk⟩ : ∃ k, kf (xm (sbit s) (lf q)) = k := ⟨_, rfl⟩
  have lk : k.length = 32 := by rw [← hk]; exact kf_length _
  clear e
  rw [hk] at hmc ⊢
  clear hk
  have l64 : (bys (s ++ p)).length = 64 := by rw [bys_length, List.length_append]; omega
  have lq : (bys q).length = 32 := by rw [bys_length]; exact hq
  have lbk : (bys k).length = 32 := by rw [bys_length]; exact lk
  have hpt : ((bys (s ++ p)).drop 0).take 32 = bys s := by rw [List.drop_zero, bys_append, List.take_left' (by rw [bys_length]; exact hs)]
  have lbs : (bys s).length = 32 := by rw [bys_length]; exact hs
  have lz : (bys (List.replicate 32 0)).length = 32 := by rw [bys_length, List.length_replicate]
  refine enter (n := 16) (R := fun e L => e = .returned (.tuple #[.agg (bys k).toArray, vN (comE k)])) [.agg (bys (s ++ p)).toArray, .agg (bys q).toArray] Try.func24 rfl rfl rfl (St.refl w) ?_ (fun e w' L' h H => ⟨h, H.kept⟩)
  refine VC_seq ?_
  refine VC_region ?_
  refine l_boxA rfl rfl ?_
  intro b2
  refine l_boxA rfl rfl ?_
  intro b3
  refine l_allocA zr23 rfl ?_
  intro b4
  refine vl_v (q_assign rfl) rfl ?_
  refine vl_nil ?_
  refine (th_n ?_)
  refine VC_seq ?_
  refine VC_region ?_
  refine vl_v (q_fldA fo25_0 (by decide) rfl rfl) rfl ?_
  refine vl_v (q_loadsAt 2 Try.underlying23 rfl rfl rfl sz23 hpt lbs) rfl ?_
  refine vl_v (q_loads 1 Try.underlying23 rfl rfl rfl sz23 (by with_reducible assumption)) rfl ?_
  refine vl_v (q_callV Try.func31 rfl rfl rfl (fun w1 H1 => hmc w1)) rfl ?_
  refine l_allocA zr23 rfl ?_
  intro b6
  refine l_storeA 0 rfl rfl rfl sz23 (by with_reducible assumption) (by with_reducible first | exact bys_one _ | exact u32s_one _ | exact u64s_one _ | exact i64s_one _ | exact n64s_one _ | assumption) (by with_reducible assumption) ?_
  simp only [List.set_cons_zero, List.set_cons_succ]
  refine vl_nil ?_
  refine (th_n ?_)
  refine VC_seq ?_
  refine VC_seq ?_
  refine VC_region ?_
  refine vl_v (q_loads 0 Try.underlying23 rfl rfl rfl sz23 (by with_reducible assumption)) rfl ?_
  refine vl_v (q_build (c' := bys (List.replicate 32 0)) rfl (by kernel_rfl)) rfl ?_
  refine vl_v (q_eqB flat32 rfl rfl (fits_bys' lk) (fits_bys' (by simp))) rfl ?_
  refine vl_nil ?_
  refine (th_n ?_)
  refine VC_cond rfl (fun ht13 => ?_) (fun ht13 => ?_)
  · skip
    have ht13 := of_decide_eq_true ht13
    refine VC_seq ?_
    refine VC_region ?_
    refine vl_v (q_loads 0 Try.underlying23 rfl rfl rfl sz23 (by with_reducible assumption)) rfl ?_
    refine l_storeA 1 rfl rfl rfl sz23 (by with_reducible assumption) (by with_reducible first | exact bys_one _ | exact u32s_one _ | exact u64s_one _ | exact i64s_one _ | exact n64s_one _ | assumption) (by with_reducible assumption) ?_
    simp only [List.set_cons_zero, List.set_cons_succ]
    refine vl_v (q_assign rfl) rfl ?_
    refine vl_nil ?_
    refine (th_n ?_)
    refine VC_ret ?_
    refine (th_r ?_)
    refine ⟨_, resC2 1 rfl Try.underlying23 rfl rfl rfl sz23 (by with_reducible assumption) rfl, ?_⟩
    exact congrArg (fun n => Ending.returned (Value.tuple #[.agg (bys k).toArray, vN n])) (by unfold comE; first | rw [if_pos ht13] | rw [if_neg ht13])
  · skip
    have ht13 := of_decide_eq_false ht13
    refine VC_skip ?_
    refine (th_n ?_)
    refine VC_seq ?_
    refine VC_region ?_
    refine vl_v (q_loads 0 Try.underlying23 rfl rfl rfl sz23 (by with_reducible assumption)) rfl ?_
    refine l_storeA 1 rfl rfl rfl sz23 (by with_reducible assumption) (by with_reducible first | exact bys_one _ | exact u32s_one _ | exact u64s_one _ | exact i64s_one _ | exact n64s_one _ | assumption) (by with_reducible assumption) ?_
    simp only [List.set_cons_zero, List.set_cons_succ]
    refine vl_v (q_assign rfl) rfl ?_
    refine vl_nil ?_
    refine (th_n ?_)
    refine VC_ret ?_
    refine ⟨_, resC2 1 rfl Try.underlying23 rfl rfl rfl sz23 (by with_reducible assumption) rfl, ?_⟩
    exact congrArg (fun n => Ending.returned (Value.tuple #[.agg (bys k).toArray, vN n])) (by unfold comE; first | rw [if_pos ht13] | rw [if_neg ht13])
set_option maxHeartbeats 1000000 in
theorem rcom_calls (s p q : List UInt8) (hs : s.length = 32) (hp : p.length = 32) (hq : q.length = 32) (w : World) :
    Calls Try.prog 18 #[.agg (bys (s ++ p)).toArray, .agg (bys q).toArray] w fun e w' => e = .returned (.tuple #[.agg (bys (comB s q)).toArray, vN (comE (comB s q))]) ∧ Kept [] w w' := by
  have hmc := fun w => rmult_calls s q hs hq w
  have e : comB s q = kf (xm (sbit s) (lf q)) := rfl
  rw [e]
  obtain ⟨k, hk⟩ : ∃ k, kf (xm (sbit s) (lf q)) = k := ⟨_, rfl⟩
  have lk : k.length = 32 := by rw [← hk]; exact kf_length _
  clear e
  rw [hk] at hmc ⊢
  clear hk
  have l64 : (bys (s ++ p)).length = 64 := by rw [bys_length, List.length_append]; omega
  have lq : (bys q).length = 32 := by rw [bys_length]; exact hq
  have lbk : (bys k).length = 32 := by rw [bys_length]; exact lk
  have hpt : ((bys (s ++ p)).drop 0).take 32 = bys s := by rw [List.drop_zero, bys_append, List.take_left' (by rw [bys_length]; exact hs)]
  have lbs : (bys s).length = 32 := by rw [bys_length]; exact hs
  have lz : (bys (List.replicate 32 0)).length = 32 := by rw [bys_length, List.length_replicate]
  refine enter (n := 16) (R := fun e L => e = .returned (.tuple #[.agg (bys k).toArray, vN (comE k)])) [.agg (bys (s ++ p)).toArray, .agg (bys q).toArray] Try.func18 rfl rfl rfl (St.refl w) ?_ (fun e w' L' h H => ⟨h, H.kept⟩)
  refine VC_seq ?_
  refine VC_region ?_
  refine l_boxA rfl rfl ?_
  intro b2
  refine l_boxA rfl rfl ?_
  intro b3
  refine l_allocA zr23 rfl ?_
  intro b4
  refine vl_v (q_assign rfl) rfl ?_
  refine vl_nil ?_
  refine (th_n ?_)
  refine VC_seq ?_
  refine VC_region ?_
  refine vl_v (q_fldA fo25_0 (by decide) rfl rfl) rfl ?_
  refine vl_v (q_loadsAt 2 Try.underlying23 rfl rfl rfl sz23 hpt lbs) rfl ?_
  refine vl_v (q_loads 1 Try.underlying23 rfl rfl rfl sz23 (by with_reducible assumption)) rfl ?_
  refine vl_v (q_callV Try.func27 rfl rfl rfl (fun w1 H1 => hmc w1)) rfl ?_
  refine l_allocA zr23 rfl ?_
  intro b6
  refine l_storeA 0 rfl rfl rfl sz23 (by with_reducible assumption) (by with_reducible first | exact bys_one _ | exact u32s_one _ | exact u64s_one _ | exact i64s_one _ | exact n64s_one _ | assumption) (by with_reducible assumption) ?_
  simp only [List.set_cons_zero, List.set_cons_succ]
  refine vl_nil ?_
  refine (th_n ?_)
  refine VC_seq ?_
  refine VC_seq ?_
  refine VC_region ?_
  refine vl_v (q_loads 0 Try.underlying23 rfl rfl rfl sz23 (by with_reducible assumption)) rfl ?_
  refine vl_v (q_build (c' := bys (List.replicate 32 0)) rfl (by kernel_rfl)) rfl ?_
  refine vl_v (q_eqB flat32 rfl rfl (fits_bys' lk) (fits_bys' (by simp))) rfl ?_
  refine vl_nil ?_
  refine (th_n ?_)
  refine VC_cond rfl (fun ht13 => ?_) (fun ht13 => ?_)
  · skip
    have ht13 := of_decide_eq_true ht13
    refine VC_seq ?_
    refine VC_region ?_
    refine vl_v (q_loads 0 Try.underlying23 rfl rfl rfl sz23 (by with_reducible assumption)) rfl ?_
    refine l_storeA 1 rfl rfl rfl sz23 (by with_reducible assumption) (by with_reducible first | exact bys_one _ | exact u32s_one _ | exact u64s_one _ | exact i64s_one _ | exact n64s_one _ | assumption) (by with_reducible assumption) ?_
    simp only [List.set_cons_zero, List.set_cons_succ]
    refine vl_v (q_assign rfl) rfl ?_
    refine vl_nil ?_
    refine (th_n ?_)
    refine VC_ret ?_
    refine (th_r ?_)
    refine ⟨_, resC2 1 rfl Try.underlying23 rfl rfl rfl sz23 (by with_reducible assumption) rfl, ?_⟩
    exact congrArg (fun n => Ending.returned (Value.tuple #[.agg (bys k).toArray, vN n])) (by unfold comE; first | rw [if_pos ht13] | rw [if_neg ht13])
  · skip
    have ht13 := of_decide_eq_false ht13
    refine VC_skip ?_
    refine (th_n ?_)
    refine VC_seq ?_
    refine VC_region ?_
    refine vl_v (q_loads 0 Try.underlying23 rfl rfl rfl sz23 (by with_reducible assumption)) rfl ?_
    refine l_storeA 1 rfl rfl rfl sz23 (by with_reducible assumption) (by with_reducible first | exact bys_one _ | exact u32s_one _ | exact u64s_one _ | exact i64s_one _ | exact n64s_one _ | assumption) (by with_reducible assumption) ?_
    simp only [List.set_cons_zero, List.set_cons_succ]
    refine vl_v (q_assign rfl) rfl ?_
    refine vl_nil ?_
    refine (th_n ?_)
    refine VC_ret ?_
    refine ⟨_, resC2 1 rfl Try.underlying23 rfl rfl rfl sz23 (by with_reducible assumption) rfl, ?_⟩
    exact congrArg (fun n => Ending.returned (Value.tuple #[.agg (bys k).toArray, vN n])) (by unfold comE; first | rw [if_pos ht13] | rw [if_neg ht13])
end Go.Proofs.Ytabmfndiepmcgaa
end
section
namespace Go.PBYtabmfndiepmcgaa
open Go Go.RowKit
set_option linter.unusedSimpArgs false
set_option linter.unusedVariables false
section
variable {P : Program} {n : Nat} {S : List Nat} {w0 : World} {Q : QE} {env : Env} {L L' : List Res} {ops : Array Oper} {rest : List Oper}
variable {d : Tmp} {dst : Option Tmp} {ty : TypeId} {pos : String} {af : Array Edge} {g : Option (Nat × Bool)}
/-- a part of a block, stored as a whole -/
theorem l_storeG {t : TypeId} {x y : Operand} {b j sz : Nat} {T : TypeId} {c vs : List Value} (k : Nat) (hx : evalE env x = some (vP b j)) (hy : evalE env y = some (.agg vs.toArray)) (hk : L[k]? = some (.blk b T c)) (hi : (P.info? t).map (·.size) = some sz) (hs : vs.length = sz) (h1 : ∀ u ∈ vs, u.oneCell' = true) (hl : j + sz ≤ c.length)
    (h : VL P n S w0 ops Q rest env (L.set k (.blk b T (splice c j vs)))) : VL P n S w0 ops Q ({ dst := none, op := .store t x y, type := ty, pos, after := af, guard := none } :: rest) env L :=
  l_storeAt k hx hy hk hi rfl hs h1 hl h
end
end Go.PBYtabmfndiepmcgaa
end
section
namespace Go.PBYtabmfndiepmcgaa
open Go Go.RowKit
set_option linter.unusedSimpArgs false
set_option linter.unusedVariables false
end Go.PBYtabmfndiepmcgaa
end
section
namespace Go.PBYtabmfndiepmcgaa
open Go Go.RowKit
set_option linter.unusedVariables false
set_option linter.unusedSimpArgs false
/-- the blocks of resources -/
def ats (X : List Res) : List Nat := X.filterMap Res.at
/-- what is owned among other things, alone -/
theorem St.own {S : List Nat} {w0 w : World} {X R : List Res} (H : St S w0 (X ++ R) w) : St (ats X) w X w :=
  ⟨Kept.refl _ _, fun r hr => H.ok r (List.mem_append_left _ hr), fun r hr b hb => .inr (List.mem_filterMap.2 ⟨r, hr, hb⟩), H.apart.sublist (List.sublist_append_left _ _)⟩
/-- and back among the others -/
theorem St.swap {S : List Nat} {w0 w w' : World} {X R X' : List Res} (H : St S w0 (X ++ R) w) (H' : St (ats X) w X' w') : St S w0 (X' ++ R) w' := by
  have hT : ∀ b, b ∈ ats X → ∃ r ∈ X, r.at = some b := fun b hb => by
    obtain ⟨r, hr, h⟩ := List.mem_filterMap.1 hb
    exact ⟨r, hr, h⟩
  have hX : ∀ r ∈ X, r ∈ X ++ R := fun r hr => List.mem_append_left _ hr
  have hR : ∀ r ∈ R, r ∈ X ++ R := fun r hr => List.mem_append_right _ hr
  have hap := List.pairwise_append.1 H.apart
  have hstay : ∀ s ∈ R, s.ok w' := fun s hs => Res.of_eq (H.ok s (hR s hs)) fun b hb => H'.kept.block b (Res.lt (H.ok s (hR s hs)) hb) fun hm => by
    obtain ⟨r, hr, h⟩ := hT b hm
    exact hap.2.2 r hr s hs b h hb
  refine ⟨⟨H'.kept.os.trans H.kept.os, H'.kept.tape.trans H.kept.tape, H'.kept.output.trans H.kept.output, Nat.le_trans H.kept.size H'.kept.size, fun k hk hn => ?_⟩, ?_, ?_, ?_⟩
  · rw [H'.kept.block k (Nat.lt_of_lt_of_le hk H.kept.size) fun hm => ?_]
    · exact H.kept.block k hk hn
    · obtain ⟨r, hr, h⟩ := hT k hm
      rcases H.new r (hX r hr) k h with h | h
      · omega
      · exact hn h
  · intro s hs
    rcases List.mem_append.1 hs with h | h
    · exact H'.ok s h
    · exact hstay s h
  · intro s hs b hb
    rcases List.mem_append.1 hs with h | h
    · rcases H'.new s h b hb with h' | h'
      · exact .inl (Nat.le_trans H.kept.size h')
      · obtain ⟨r, hr, h2⟩ := hT b h'
        exact H.new r (hX r hr) b h2
    · exact H.new s (hR s h) b hb
  · refine List.pairwise_append.2 ⟨H'.apart, hap.2.1, ?_⟩
    intro s hs t ht b hb htb
    rcases H'.new s hs b hb with h' | h'
    · have := Res.lt (H.ok t (hR t ht)) htb
      omega
    · obtain ⟨r, hr, h2⟩ := hT b h'
      exact hap.2.2 r hr t ht b h2 htb
section
variable {P : Program} {n : Nat} {S : List Nat} {w0 : World} {Q : QE} {env : Env} {X F : List Res} {c : Code}
/-- code that works on some of what is owned -/
theorem VC_frame (h : ∀ w, St S w0 (X ++ F) w → VC P n (ats X) w c (fun e env X' => Q e env (X' ++ F)) env X) : VC P n S w0 c Q env (X ++ F) :=
  ⟨fun a w hm H => wp_mono ((h w H).run a w hm H.own) fun e a' w' ⟨env', X', h1, h2, h3⟩ => ⟨env', X' ++ F, h1, H.swap h2, h3⟩⟩
/-- what lay there before any of it -/
theorem Reads.own {w w0 : World} {L : List Res} {A : Option Addr} {vs : List Value} (hA : SlAt w0 A vs) (H : St [] w0 (X ++ F) w) : Reads (ats X) w L A vs := by
  have h1 : SlAt w A vs := H.sl0 hA
  intro w' H' j v hj
  obtain ⟨a, e, hc⟩ := h1 j v hj
  refine ⟨a, e, H'.kept.cell hc ?_⟩
  intro hm
  obtain ⟨r, hr, hb⟩ := List.mem_filterMap.1 hm
  obtain ⟨a0, e0, hc0⟩ := hA j v hj
  rw [e] at e0
  cases e0
  have hl := World.block_lt_of_cell? w0 _ hc0
  rcases H.new r (List.mem_append_left _ hr) _ hb with h | h
  · omega
  · simp at h
/-- what of the rest is read -/
theorem Reads.rest {w w0 : World} {L : List Res} {A : Option Addr} {vs : List Value} (r : Res) (hr : r ∈ F) (hA : ∀ w', r.ok w' → SlAt w' A vs) (H : St S w0 (X ++ F) w) : Reads (ats X) w L A vs := by
  intro w' H'
  refine hA w' (Res.of_eq (H.ok r (List.mem_append_right _ hr)) fun b hb => H'.kept.block b (Res.lt (H.ok r (List.mem_append_right _ hr)) hb) fun hm => ?_)
  obtain ⟨x, hx, h⟩ := List.mem_filterMap.1 hm
  exact (List.pairwise_append.1 H.apart).2.2 x hx r hr b h hb
end
section
variable {P : Program} {n : Nat} {S : List Nat} {w0 : World} {env : Env} {L : List Res}
variable {d : Tmp} {ty : TypeId} {pos : String} {af : Array Edge} {g : Option (Nat × Bool)}
/-- a field, by an address that is read -/
theorem q_fldRd {s : TypeId} {x : Operand} {f off sz m r : Nat} {A : Option Addr} (hf : fieldOff P s f = some (off, sz)) (hz : sz ≠ 0) (hx : evalE env x = some (ptrOf A m)) (hr : m + off = r) :
    QT P n S w0 { dst := some d, op := .fieldAddr s x f, type := ty, pos, after := af, guard := g } env L (.val (ptrOf A r)) := by
  have h := q_fldAd (n := n) (S := S) (w0 := w0) (L := L) (d := d) (ty := ty) (pos := pos) (af := af) (g := g) hf hz hx
  rw [Addr.add_add' _ _ _ (.inr (.inr trivial)), hr] at h
  exact h
end
end Go.PBYtabmfndiepmcgaa
end
