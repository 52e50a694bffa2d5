/- Any bytes, closed: the statement SealCloses. No condition. -/
import Derived.Test.YtkadnmoephkklaaRows
import Derived.Test.YtkadnmoephkklaaA05
namespace Go.Proofs.Ytkadnmoephkklaa
open Go.RowKit Go.PBYtkadnmoephkklaa
set_option linter.unusedVariables false
set_option linter.unusedSimpArgs false
set_option maxRecDepth 10000

set_option maxHeartbeats 2000000 in
theorem closes_good (k b c : List UInt8) (B C : Option Addr) (cb cc : Nat) (hk : k.length = 32) (hb : b.length ≤ 500) (hc : c.length ≤ 500) (hcb : b.length ≤ cb) (hcc : c.length ≤ cc) (w : World) (hB : SlAt w B (bys b)) (hC : SlAt w C (bys c)) :
    Calls Try.prog 14 #[.agg (bys k).toArray, .slice B b.length cb, .slice C c.length cc] w fun e w' => e = .returned (.bool true) ∧ Kept [] w w' := by
  have h1 := closeW_length k b c
  have h2 := closeW_take k b c
  have h3 := closeW_drop k b c
  have h5 := turnW_twice k c
  have lu := turnW_length k c
  have lm := markW_length k b (turnW k c)
  obtain ⟨u, hu⟩ : ∃ u, turnW k c = u := ⟨_, rfl⟩
  rw [hu] at h2 h3 h5 lu lm
  obtain ⟨m, hm⟩ : ∃ m, markW k b u = m := ⟨_, rfl⟩
  rw [hm] at h3 lm
  obtain ⟨cw, hcw⟩ : ∃ x, closeW k b c = x := ⟨_, rfl⟩
  rw [hcw] at h1 h2 h3
  refine enter (n := 59) (R := fun e L => e = .returned (.bool true)) [.agg (bys k).toArray, .slice B b.length cb, .slice C c.length cc] Try.func14 rfl rfl rfl (St.refl w) ?_ (fun e w' L' h H => ⟨h, H.kept⟩)
  refine VC_seq ?_
  refine VC_region ?_
  refine l_boxA rfl rfl ?_
  intro b3
  refine vl_v (q_assign rfl) rfl ?_
  refine vl_nil ?_
  refine (th_n ?_)
  refine VC_seq ?_
  refine VC_region ?_
  refine vl_v (q_callV Try.func33 rfl rfl rfl (fun w1 H1 => awake5_calls w1)) rfl ?_
  refine vl_v (q_assign rfl) rfl ?_
  refine vl_nil ?_
  refine (th_n ?_)
  refine VC_seq ?_
  refine VC_seq ?_
  refine VC_region ?_
  refine vl_v (q_move rfl) rfl ?_
  refine vl_v (q_lenS Try.underlying24 rfl) rfl ?_
  refine vl_v (q_false (q_gtr_n (q := 500) Try.underlying3 rfl rfl) (by simp; omega)) rfl ?_
  refine vl_v (q_move rfl) rfl ?_
  refine vl_vg rfl (q_move rfl) rfl ?_
  refine vl_vg rfl (q_lenS Try.underlying24 rfl) rfl ?_
  refine vl_vg rfl (q_false (q_gtr_n (q := 500) Try.underlying3 rfl rfl) (by simp; omega)) rfl ?_
  first | (refine vl_v (q_pickT rfl rfl) rfl ?_) | (refine vl_v (q_pickF rfl rfl) rfl ?_)
  refine vl_nil ?_
  refine (th_n ?_)
  refine VC_no (rfl) ?_
  refine VC_skip ?_
  refine (th_n ?_)
  refine VC_seq ?_
  refine VC_region ?_
  first | (refine vl_v (q_loads 0 Try.underlying23 rfl rfl rfl sz23 (by first | omega | with_reducible assumption | (simp only [zb, zu, zw, zi, za]; omega) | (simp only [zs, zr, zm, za, zb, zu, zw, zi, zt, zd, zc, zn, *] <;> first | done | omega) | rfl)) rfl ?_) | (refine vl_v (q_loadsAt 0 Try.underlying23 rfl rfl rfl sz23 (by rfl) (by first | omega | with_reducible assumption | (simp only [zb, zu, zw, zi, za]; omega) | (simp only [zs, zr, zm, za, zb, zu, zw, zi, zt, zd, zc, zn, *] <;> first | done | omega) | rfl)) rfl ?_)
  refine vl_v (q_move rfl) rfl ?_
  refine vl_v (q_move rfl) rfl ?_
  refine l_callR Try.func34 rfl rfl rfl (fun w1 H1 => by have h := close5_calls k b c hk B C b.length c.length cb cc rfl rfl (by omega) (by omega) w1 (Reads.old hB w1 H1) (Reads.old hC w1 H1) hcb hcc; rw [hcw] at h; exact h) rfl ?_
  intro A24 c24 hc24 hm24
  refine vl_v (q_assign rfl) rfl ?_
  refine vl_nil ?_
  refine (th_n ?_)
  refine VC_seq ?_
  refine VC_region ?_
  refine vl_v (q_move rfl) rfl ?_
  refine vl_v (q_callV Try.func36 rfl rfl rfl (fun w1 H1 => tag5_good cw m c.length _ c24 A24 h1 h3 h1.symm (by omega) (by omega) w1 (Reads.row 0 rfl w1 H1))) rfl ?_
  refine vl_v (q_move rfl) rfl ?_
  refine vl_v (q_ext rfl rfl) rfl ?_
  refine vl_v (q_ext rfl rfl) rfl ?_
  refine l_allocA zr23 rfl ?_
  intro b9
  refine l_storeA 0 rfl rfl rfl sz23 (by first | omega | with_reducible assumption | (simp only [zb, zu, zw, zi, za]; omega) | (simp only [zs, zr, zm, za, zb, zu, zw, zi, zt, zd, zc, zn, *] <;> first | done | omega) | rfl) (by first | (with_reducible first | exact bys_one _ | exact u32s_one _ | exact u64s_one _ | exact i64s_one _ | exact n64s_one _ | assumption) | exact bys_one _ | exact u32s_one _ | exact u64s_one _ | exact i64s_one _ | exact one_all rfl | (refine app_one ?_ ?_ <;> first | exact bys_one _ | (simp; done))) (by first | omega | with_reducible assumption | (simp only [zb, zu, zw, zi, za]; omega) | (simp only [zs, zr, zm, za, zb, zu, zw, zi, zt, zd, zc, zn, *] <;> first | done | omega) | rfl) ?_
  simp only [List.set_cons_zero, List.set_cons_succ]
  refine vl_v (q_assign rfl) rfl ?_
  refine vl_nil ?_
  refine (th_n ?_)
  refine VC_seq ?_
  refine VC_seq ?_
  refine VC_region ?_
  refine vl_v (q_move rfl) rfl ?_
  refine vl_v (q_lenS Try.underlying24 rfl) rfl ?_
  refine vl_v (q_false (q_lss_n (q := 32) Try.underlying3 rfl rfl) (by simp)) rfl ?_
  refine vl_nil ?_
  refine (th_n ?_)
  refine VC_no (rfl) ?_
  refine VC_skip ?_
  refine (th_n ?_)
  refine VC_seq ?_
  refine VC_drawM 24 [[], [0], [1], [2, 1], [1], [1], [1], [4, 5, 6, 1], [7, 1], [3, 8, 1], [1, 9], [10, 7], [11], [12, 11], [11, 13], [14, 11], [15], [16, 15], [15], [15], [19, 15], [20, 15], [18, 21, 15], [22, 15], [17, 23, 15], [15, 24], [25, 15, 0, 1, 2, 3, 4, 5, 6, 7, 8, 9, 10, 11, 12, 13, 14, 16, 17, 18, 19, 20, 21, 22, 23, 24]] [[], [0], [0, 1], [0, 1, 2], [0, 1], [0, 1], [0, 1], [0, 1, 4, 5, 6], [0, 1, 4, 5, 6, 7], [0, 1, 2, 3, 4, 5, 6, 7, 8], [0, 1, 2, 3, 4, 5, 6, 7, 8, 9], [0, 1, 2, 3, 4, 5, 6, 7, 8, 9, 10], [0, 1, 2, 3, 4, 5, 6, 7, 8, 9, 10, 11], [0, 1, 2, 3, 4, 5, 6, 7, 8, 9, 10, 11, 12], [0, 1, 2, 3, 4, 5, 6, 7, 8, 9, 10, 11, 12, 13], [0, 1, 2, 3, 4, 5, 6, 7, 8, 9, 10, 11, 12, 13, 14], [0, 1, 2, 3, 4, 5, 6, 7, 8, 9, 10, 11, 12, 13, 14, 15], [0, 1, 2, 3, 4, 5, 6, 7, 8, 9, 10, 11, 12, 13, 14, 15, 16], [0, 1, 2, 3, 4, 5, 6, 7, 8, 9, 10, 11, 12, 13, 14, 15], [0, 1, 2, 3, 4, 5, 6, 7, 8, 9, 10, 11, 12, 13, 14, 15], [0, 1, 2, 3, 4, 5, 6, 7, 8, 9, 10, 11, 12, 13, 14, 15, 19], [0, 1, 2, 3, 4, 5, 6, 7, 8, 9, 10, 11, 12, 13, 14, 15, 19, 20], [0, 1, 2, 3, 4, 5, 6, 7, 8, 9, 10, 11, 12, 13, 14, 15, 18, 19, 20, 21], [0, 1, 2, 3, 4, 5, 6, 7, 8, 9, 10, 11, 12, 13, 14, 15, 18, 19, 20, 21, 22], [0, 1, 2, 3, 4, 5, 6, 7, 8, 9, 10, 11, 12, 13, 14, 15, 16, 17, 18, 19, 20, 21, 22, 23], [0, 1, 2, 3, 4, 5, 6, 7, 8, 9, 10, 11, 12, 13, 14, 15, 16, 17, 18, 19, 20, 21, 22, 23, 24], [0, 1, 2, 3, 4, 5, 6, 7, 8, 9, 10, 11, 12, 13, 14, 15, 16, 17, 18, 19, 20, 21, 22, 23, 24, 25]] rfl (by kernel_rfl) ?_
  refine qm_v (fun xs hx => q_move rfl) ?_
  refine qm_v (fun xs hx => q_move rfl) ?_
  refine qm_vg (fun xs => rfl) (fun xs hx => q_move rfl) ?_
  refine qm_vg (fun xs => rfl) (fun xs hx => q_str (l := cw) Try.underlying24 Try.underlying5 Try.underlying9 rfl (Reads.row 1 rfl) h1.symm) ?_
  first | (refine qm_vg (fun xs => rfl) (fun xs hx => q_loads 2 Try.underlying23 rfl rfl rfl sz23 (by first | omega | with_reducible assumption | (simp only [zb, zu, zw, zi, za]; omega) | (simp only [zs, zr, zm, za, zb, zu, zw, zi, zt, zd, zc, zn, *] <;> first | done | omega) | rfl)) ?_) | (refine qm_vg (fun xs => rfl) (fun xs hx => q_loadsAt 2 Try.underlying23 rfl rfl rfl sz23 (by rfl) (by first | omega | with_reducible assumption | (simp only [zb, zu, zw, zi, za]; omega) | (simp only [zs, zr, zm, za, zb, zu, zw, zi, zt, zd, zc, zn, *] <;> first | done | omega) | rfl)) ?_)
  refine qm_vg (fun xs => rfl) (fun xs hx => q_move rfl) ?_
  refine qm_vg (fun xs => rfl) (fun xs hx => q_move rfl) ?_
  refine qm_ag (fun xs => rfl) (fun xs hx => q_callR Try.func37 rfl rfl rfl (fun w1 H1 => by have h := rclose5_calls k b c hk B C b.length c.length cb cc rfl rfl (by omega) (by omega) w1 (Reads.old hB w1 H1) (Reads.old hC w1 H1) hcb hcc; rw [hcw] at h; exact h)) ?_
  refine qm_vg (fun xs => rfl) (fun xs hx => q_strR 0 Try.underlying24 Try.underlying5 Try.underlying9 rfl rfl) ?_
  refine qm_vg (fun xs => rfl) (fun xs hx => q_true (q_eqStr Try.underlying9 rfl rfl) (decide_eq_true rfl)) ?_
  first | (refine qm_v (fun xs hx => q_pickT rfl rfl) ?_) | (refine qm_v (fun xs hx => q_pickF rfl rfl) ?_)
  refine qm_v (fun xs hx => q_move rfl) ?_
  refine qm_vg (fun xs => rfl) (fun xs hx => q_move rfl) ?_
  refine qm_vg (fun xs => rfl) (fun xs hx => q_true (q_eql_n (q := 0) Try.underlying26 rfl rfl) (decide_eq_true rfl)) ?_
  first | (refine qm_v (fun xs hx => q_pickT rfl rfl) ?_) | (refine qm_v (fun xs hx => q_pickF rfl rfl) ?_)
  refine qm_v (fun xs hx => q_move rfl) ?_
  refine qm_vg (fun xs => rfl) (fun xs hx => q_slcA Try.underlying23 sz5 rfl rfl rfl rfl (.inl rfl) (by omega) (by omega) (by omega) (by omega) (by (try simp only [Nat.mul_one, Nat.zero_add, Nat.zero_mul, Nat.mul_zero, Nat.add_zero]) <;> rfl)) ?_
  refine qm_vg (fun xs => rfl) (fun xs hx => q_str (l := m) Try.underlying24 Try.underlying5 Try.underlying9 rfl (Reads.blk 1 rfl) lm.symm) ?_
  refine qm_vg (fun xs => rfl) (fun xs hx => q_move rfl) ?_
  refine qm_vg (fun xs => rfl) (fun xs hx => q_move rfl) ?_
  refine qm_vg (fun xs => rfl) (fun xs hx => q_lenS Try.underlying24 rfl) ?_
  refine qm_vg (fun xs => rfl) (fun xs hx => q_as (v := vN c.length) (q_sub_n (q := 32) (p := c.length + 32) rfl rfl (by omega) (by omega)) (by rw [Nat.add_sub_cancel])) ?_
  refine qm_vg (fun xs => rfl) (fun xs hx => q_as (v := .slice (PBYtkadnmoephkklaa.adv A24 c.length c24 1) 32 (c24 - c.length)) (q_slcS (l := c.length) (h := c.length + 32) (m := c24) Try.underlying24 sz5 rfl ⟨_, rfl⟩ rfl rfl (.inl rfl) (by omega) (by omega) (by omega)) (by rw [Nat.add_sub_cancel_left])) ?_
  refine qm_vg (fun xs => rfl) (fun xs hx => q_str (l := m) Try.underlying24 Try.underlying5 Try.underlying9 rfl (fun w1 H1 => by have h := slRest (Reads.row 2 rfl w1 H1) c.length c24 (by omega); rw [h3] at h; exact h) lm.symm) ?_
  refine qm_end ?_
  intro xs hx
  obtain ⟨⟨A40, c40, e40, hc40, hm40⟩, _⟩ := hx
  simp only [e40]
  simp only [resT, nRow, nBlk, nRowT, tupAt_0, List.append_assoc, List.nil_append, List.append_nil, List.cons_append, List.singleton_append, e40]
  refine VL.keep (Sub.cons (s := 0) rfl (Sub.cons (s := 1) rfl (Sub.cons (s := 2) rfl (Sub.cons (s := 3) rfl (Sub.cons (s := 6) rfl (Sub.cons (s := 7) rfl (Sub.cons (s := 19) rfl (Sub.cons (s := 8) rfl (Sub.cons (s := 9) rfl (Sub.cons (s := 10) rfl (Sub.cons (s := 32) rfl (Sub.cons (s := 48) rfl (Sub.cons (s := 50) rfl (Sub.cons (s := 56) rfl (Sub.nil _))))))))))))))) ?_
  refine vl_vg rfl (q_true (q_eqStr Try.underlying9 rfl rfl) (decide_eq_true rfl)) rfl ?_
  first | (refine vl_v (q_pickT rfl rfl) rfl ?_) | (refine vl_v (q_pickF rfl rfl) rfl ?_)
  refine vl_v (q_assign rfl) rfl ?_
  refine vl_nil ?_
  refine (qn_n (th_n ?_))
  refine VC_ret ?_
  refine ⟨_, res1 rfl rfl, ?_⟩
  exact rfl
set_option maxHeartbeats 1000000 in
theorem closes_long1 (k b c : List UInt8) (B C : Option Addr) (cb cc : Nat) (hb : ¬ b.length ≤ 500) (w : World) :
    Calls Try.prog 14 #[.agg (bys k).toArray, .slice B b.length cb, .slice C c.length cc] w fun e w' => e = .returned (.bool true) ∧ Kept [] w w' := by
  refine enter (n := 59) (R := fun e L => e = .returned (.bool true)) [.agg (bys k).toArray, .slice B b.length cb, .slice C c.length cc] Try.func14 rfl rfl rfl (St.refl w) ?_ (fun e w' L' h H => ⟨h, H.kept⟩)
  refine VC_seq ?_
  refine VC_region ?_
  refine l_boxA rfl rfl ?_
  intro b3
  refine vl_v (q_assign rfl) rfl ?_
  refine vl_nil ?_
  refine (th_n ?_)
  refine VC_seq ?_
  refine VC_region ?_
  refine vl_v (q_callV Try.func33 rfl rfl rfl (fun w1 H1 => awake5_calls w1)) rfl ?_
  refine vl_v (q_assign rfl) rfl ?_
  refine vl_nil ?_
  refine (th_n ?_)
  refine VC_seq ?_
  refine VC_seq ?_
  refine VC_region ?_
  refine vl_v (q_move rfl) rfl ?_
  refine vl_v (q_lenS Try.underlying24 rfl) rfl ?_
  refine vl_v (q_true (q_gtr_n (q := 500) Try.underlying3 rfl rfl) (decide_eq_true (by omega))) rfl ?_
  refine vl_v (q_move rfl) rfl ?_
  refine vl_skip rfl rfl ?_
  refine vl_skip rfl rfl ?_
  refine vl_skip rfl rfl ?_
  first | (refine vl_v (q_pickT rfl rfl) rfl ?_) | (refine vl_v (q_pickF rfl rfl) rfl ?_)
  refine vl_nil ?_
  refine (th_n ?_)
  refine VC_yes (rfl) ?_
  refine VC_seq ?_
  refine VC_region ?_
  refine vl_v (q_move rfl) rfl ?_
  refine vl_v (q_assign rfl) rfl ?_
  refine vl_nil ?_
  refine (th_n ?_)
  refine VC_ret ?_
  refine (th_r ?_)
  refine ⟨_, res1 rfl rfl, ?_⟩
  exact rfl
set_option maxHeartbeats 1000000 in
theorem closes_long2 (k b c : List UInt8) (B C : Option Addr) (cb cc : Nat) (hb : b.length ≤ 500) (hc : ¬ c.length ≤ 500) (w : World) :
    Calls Try.prog 14 #[.agg (bys k).toArray, .slice B b.length cb, .slice C c.length cc] w fun e w' => e = .returned (.bool true) ∧ Kept [] w w' := by
  refine enter (n := 59) (R := fun e L => e = .returned (.bool true)) [.agg (bys k).toArray, .slice B b.length cb, .slice C c.length cc] Try.func14 rfl rfl rfl (St.refl w) ?_ (fun e w' L' h H => ⟨h, H.kept⟩)
  refine VC_seq ?_
  refine VC_region ?_
  refine l_boxA rfl rfl ?_
  intro b3
  refine vl_v (q_assign rfl) rfl ?_
  refine vl_nil ?_
  refine (th_n ?_)
  refine VC_seq ?_
  refine VC_region ?_
  refine vl_v (q_callV Try.func33 rfl rfl rfl (fun w1 H1 => awake5_calls w1)) rfl ?_
  refine vl_v (q_assign rfl) rfl ?_
  refine vl_nil ?_
  refine (th_n ?_)
  refine VC_seq ?_
  refine VC_seq ?_
  refine VC_region ?_
  refine vl_v (q_move rfl) rfl ?_
  refine vl_v (q_lenS Try.underlying24 rfl) rfl ?_
  refine vl_v (q_false (q_gtr_n (q := 500) Try.underlying3 rfl rfl) (by simp; omega)) rfl ?_
  refine vl_v (q_move rfl) rfl ?_
  refine vl_vg rfl (q_move rfl) rfl ?_
  refine vl_vg rfl (q_lenS Try.underlying24 rfl) rfl ?_
  refine vl_vg rfl (q_true (q_gtr_n (q := 500) Try.underlying3 rfl rfl) (decide_eq_true (by omega))) rfl ?_
  first | (refine vl_v (q_pickT rfl rfl) rfl ?_) | (refine vl_v (q_pickF rfl rfl) rfl ?_)
  refine vl_nil ?_
  refine (th_n ?_)
  refine VC_yes (rfl) ?_
  refine VC_seq ?_
  refine VC_region ?_
  refine vl_v (q_move rfl) rfl ?_
  refine vl_v (q_assign rfl) rfl ?_
  refine vl_nil ?_
  refine (th_n ?_)
  refine VC_ret ?_
  refine (th_r ?_)
  refine ⟨_, res1 rfl rfl, ?_⟩
  exact rfl
theorem sealCloses.walk (w : World) (v0 : Value) (k : List UInt8) (h0 : KeyV v0 k) (v1 : Value) (b : List UInt8) (h1 : BsArg w v1 b) (v2 : Value) (c : List UInt8) (h2 : BsArg w v2 c) :
    Calls Try.prog 14 #[v0, v1, v2] w fun e w' => e = .returned (.bool true) ∧ Kept [] w w' := by
  obtain ⟨rfl, hk⟩ := h0
  obtain ⟨B, cb, rfl, hcb, _, hB⟩ := h1
  obtain ⟨C, cc, rfl, hcc, _, hC⟩ := h2
  by_cases hb : b.length ≤ 500
  · by_cases hc : c.length ≤ 500
    · exact closes_good k b c B C cb cc hk hb hc hcb hcc w hB hC
    · exact closes_long2 k b c B C cb cc hb hc w
  · exact closes_long1 k b c B C cb cc hb w

namespace sealCloses
open Go.ChangeShapes Go.WideShapes Go.ChangeAt Go.RowKit
theorem own : ownKnob Try.prog.godebug = none := by kernel_rfl
theorem laidOut : laidOutB Try.prog = true := by kernel_rfl
set_option maxRecDepth 100000 in
theorem lifted (os : Os) (started : os.Started) (H : Type) (enc : TypeId × Value → H) :
    ReturnsInHanded {} Try.checked os 14 .any (Rows.sealClosesSpec.pre6 enc Try.prog Try.f14 Rows.sealClosesRow.domain false) (Rows.sealClosesSpec.post enc Try.prog Try.f14 false true false false) := by
  refine returnsInHanded_of_change (C := Try.checked) own started (by kernel_rfl) Try.func14
    (ChangeSpec.witness6 (enc := enc) (C := Try.checked) false ⟨#[], #[(.agg (List.replicate 32 (Value.int .u8 0)).toArray), .slice none 0 0, .slice none 0 0], []⟩ 8 (by kernel_rfl) (by kernel_rfl) (by kernel_rfl) (by kernel_rfl)) ?_
  intro W base args ds gs before hval0 hW hcnd _
  have hval : ∀ (j : Nat) t v, Try.f14.params[j]? = some t → args[j]? = some v → Value.okWide Try.prog W .any base t v := hval0
  have hW' := hW
  obtain ⟨p, q, hA0, hV, rfl, hfz, hnd⟩ := hW
  have hA : DataW.TrodAll enc Try.prog W 0 (fun _ => true) true Try.f14.params.toList args.toList ds p := hA0
  rw [Try.params14] at hA hval
  obtain ⟨v0, vs0, d0, ds0, p0, q0, hargs, rfl, rfl, h0, r0⟩ := trodAll_cons hA
  obtain ⟨v1, vs1, d1, ds1, p1, q1, rfl, rfl, rfl, h1, r1⟩ := trodAll_cons r0
  obtain ⟨v2, vs2, d2, ds2, p2, q2, rfl, rfl, rfl, h2, r2⟩ := trodAll_cons r1
  obtain ⟨rfl, rfl, rfl⟩ := trodAll_nil r2
  obtain rfl : args = #[v0, v1, v2] := by cases args; simp_all
  obtain ⟨rfl, rfl⟩ := trodVars_none hV
  have k0 := h0
  have lt0 : ∀ x ∈ p0, x.block < W.heap.size := by obtain ⟨m, hm⟩ := k0; exact DataW.trod_lt m _ _ _ hm
  have k1 := h1
  have lt1 : ∀ x ∈ p1, x.block < W.heap.size := by obtain ⟨m, hm⟩ := k1; exact DataW.trod_lt m _ _ _ hm
  have k2 := h2
  have lt2 : ∀ x ∈ p2, x.block < W.heap.size := by obtain ⟨m, hm⟩ := k2; exact DataW.trod_lt m _ _ _ hm
  obtain ⟨cs0, e0, f0⟩ := open_flat (ks := (List.replicate 32 .u8)) 6 (by kernel_rfl) (by kernel_rfl) (hval 0 23 v0 rfl rfl) h0
  subst e0
  obtain ⟨l0, g0⟩ := open_key f0
  obtain ⟨l1, g1⟩ := open_bytes Try.underlying24 Try.underlying5 (by kernel_rfl) (hval 1 24 v1 rfl rfl) h1
  obtain ⟨l2, g2⟩ := open_bytes Try.underlying24 Try.underlying5 (by kernel_rfl) (hval 2 24 v2 rfl rfl) h2
  clear hA0 hval0
  refine (sealCloses.walk W _ l0 g0 v1 l1 g1 v2 l2 g2).mono fun e W' ⟨he, hK⟩ => ?_
  subst he
  have bel := hK.below
  exact ⟨_, rfl, _, _, _, [], _, [], hW', trodAll_mk1 (shut_bool Try.underlying4 _), (trodAll_cons_mk (Below.trod laidOut (by kernel_rfl) (of_decide_eq_true (by kernel_rfl)) k0 bel lt0) (trodAll_cons_mk (Below.trod laidOut (by kernel_rfl) (of_decide_eq_true (by kernel_rfl)) k1 bel lt1) (trodAll_cons_mk (Below.trod laidOut (by kernel_rfl) (of_decide_eq_true (by kernel_rfl)) k2 bel lt2) trodAll_mk0))), rfl, bel.frame _, fun h => by cases h⟩
theorem over : Rows.sealClosesRow.holds Try.pinned (OpenSpec.ofChange Rows.sealClosesSpec) :=
  OpenClaim.holds_of_wide 14 Try.f14 rfl rfl rfl rfl rfl rfl rfl ⟨rfl, rfl, rfl, rfl, rfl⟩ rfl rfl rfl rfl rfl (by kernel_rfl) Try.func14 (by kernel_rfl)
    (of_decide_eq_true (by kernel_rfl)) (by unfold Func.isWrapper; first | (rw [if_pos (by decide +kernel)]; kernel_rfl) | (rw [if_neg (by decide +kernel)]; exact ⟨rfl, rfl⟩))
    (fun os started H enc _ => lifted os started H enc)
theorem proved : Rows.SealClosesSaid := over
end sealCloses
/-- The row. -/
theorem sealCloses_holds : Rows.SealClosesSaid := sealCloses.proved
#print axioms sealCloses_holds
end Go.Proofs.Ytkadnmoephkklaa
