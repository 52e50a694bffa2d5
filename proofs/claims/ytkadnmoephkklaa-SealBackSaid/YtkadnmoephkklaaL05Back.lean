/- What is closed is opened as it was: the statement SealBack. No condition. -/
import Derived.Test.YtkadnmoephkklaaRows
import Derived.Test.YtkadnmoephkklaaA05
namespace Go.Proofs.Ytkadnmoephkklaa
open Go.RowKit Go.PBYtkadnmoephkklaa
set_option linter.unusedVariables false
set_option linter.unusedSimpArgs false
set_option maxRecDepth 10000

theorem last_turned (cw : List UInt8) (n : Nat) (h : cw.length = n + 32) : ¬ cw.drop n = (cw.set (n + 32 - 1) (cw.getD (n + 32 - 1) 0 ^^^ UInt8.ofNat 1)).drop n := by
  intro e
  have e1 := congrArg (fun l : List UInt8 => l[31]?) e
  simp only [List.getElem?_drop] at e1
  rw [show n + 31 = n + 32 - 1 by omega, List.getElem?_set_self (by omega), List.getD_eq_getElem?_getD, List.getElem?_eq_getElem (by omega)] at e1
  simp only [Option.getD_some, Option.some.injEq] at e1
  generalize cw[n + 32 - 1]'(by omega) = x at e1
  have h2 : ∀ y : Fin 256, ¬ UInt8.ofNat y.val = UInt8.ofNat y.val ^^^ UInt8.ofNat 1 := by decide +kernel
  exact h2 ⟨x.toNat, UInt8.toNat_lt x⟩ (by simpa using e1)
set_option maxHeartbeats 2000000 in
theorem back_good (k b c : List UInt8) (B C : Option Addr) (cb cc : Nat) (hk : k.length = 32) (hb : b.length ≤ 500) (hc : c.length ≤ 500) (hcb : b.length ≤ cb) (hcc : c.length ≤ cc) (w : World) (hB : SlAt w B (bys b)) (hC : SlAt w C (bys c)) :
    Calls Try.prog 12 #[.agg (bys k).toArray, .slice B b.length cb, .slice C c.length cc] w fun e w' => e = .returned (.bool true) ∧ Kept [] w w' := by
  have h1 := closeW_length k b c
  have h2 := closeW_take k b c
  have h3 := closeW_drop k b c
  have h5 := turnW_twice k c
  have lu := turnW_length k c
  have lm := markW_length k b (turnW k c)
  obtain ⟨u, hu⟩ : ∃ u, turnW k c = u := ⟨_, rfl⟩
  rw [hu] at h2 h3 h5 lu lm
  obtain ⟨m, hm⟩ : ∃ m, markW k b u = m := ⟨_, rfl⟩
  rw [hm] at h3 lm
  obtain ⟨cw, hcw⟩ : ∃ x, closeW k b c = x := ⟨_, rfl⟩
  rw [hcw] at h1 h2 h3
  obtain ⟨bd, hbd⟩ : ∃ x, cw.set (c.length + 32 - 1) (cw.getD (c.length + 32 - 1) 0 ^^^ UInt8.ofNat 1) = x := ⟨_, rfl⟩
  have lbd : bd.length = c.length + 32 := by rw [← hbd, List.length_set, h1]
  have ebd2 : bd.take c.length = u := by rw [← hbd, List.take_set_of_le (by omega), h2]
  have ebd3 : ¬ m = bd.drop c.length := by rw [← h3, ← hbd]; exact last_turned cw c.length h1
  refine enter (n := 75) (R := fun e L => e = .returned (.bool true)) [.agg (bys k).toArray, .slice B b.length cb, .slice C c.length cc] Try.func12 rfl rfl rfl (St.refl w) ?_ (fun e w' L' h H => ⟨h, H.kept⟩)
  refine VC_seq ?_
  refine VC_region ?_
  refine l_boxA rfl rfl ?_
  intro b3
  refine vl_v (q_assign rfl) rfl ?_
  refine vl_nil ?_
  refine (th_n ?_)
  refine VC_seq ?_
  refine VC_region ?_
  refine vl_v (q_callV Try.func33 rfl rfl rfl (fun w1 H1 => awake5_calls w1)) rfl ?_
  refine vl_v (q_assign rfl) rfl ?_
  refine vl_nil ?_
  refine (th_n ?_)
  refine VC_seq ?_
  refine VC_seq ?_
  refine VC_region ?_
  refine vl_v (q_move rfl) rfl ?_
  refine vl_v (q_lenS Try.underlying24 rfl) rfl ?_
  refine vl_v (q_false (q_gtr_n (q := 500) Try.underlying3 rfl rfl) (by simp; omega)) rfl ?_
  refine vl_v (q_move rfl) rfl ?_
  refine vl_vg rfl (q_move rfl) rfl ?_
  refine vl_vg rfl (q_lenS Try.underlying24 rfl) rfl ?_
  refine vl_vg rfl (q_false (q_gtr_n (q := 500) Try.underlying3 rfl rfl) (by simp; omega)) rfl ?_
  first | (refine vl_v (q_pickT rfl rfl) rfl ?_) | (refine vl_v (q_pickF rfl rfl) rfl ?_)
  refine vl_nil ?_
  refine (th_n ?_)
  refine VC_no (rfl) ?_
  refine VC_skip ?_
  refine (th_n ?_)
  refine VC_seq ?_
  refine VC_region ?_
  first | (refine vl_v (q_loads 0 Try.underlying23 rfl rfl rfl sz23 (by first | omega | with_reducible assumption | (simp only [zb, zu, zw, zi, za]; omega) | (simp only [zs, zr, zm, za, zb, zu, zw, zi, zt, zd, zc, zn, *] <;> first | done | omega) | rfl)) rfl ?_) | (refine vl_v (q_loadsAt 0 Try.underlying23 rfl rfl rfl sz23 (by rfl) (by first | omega | with_reducible assumption | (simp only [zb, zu, zw, zi, za]; omega) | (simp only [zs, zr, zm, za, zb, zu, zw, zi, zt, zd, zc, zn, *] <;> first | done | omega) | rfl)) rfl ?_)
  refine vl_v (q_move rfl) rfl ?_
  refine vl_v (q_move rfl) rfl ?_
  refine l_callR Try.func34 rfl rfl rfl (fun w1 H1 => by have h := close5_calls k b c hk B C b.length c.length cb cc rfl rfl (by omega) (by omega) w1 (Reads.old hB w1 H1) (Reads.old hC w1 H1) hcb hcc; rw [hcw] at h; exact h) rfl ?_
  intro A27 c27 hc27 hm27
  refine vl_v (q_assign rfl) rfl ?_
  refine vl_nil ?_
  refine (th_n ?_)
  refine VC_seq ?_
  refine VC_seq ?_
  refine VC_region ?_
  refine vl_v (q_move rfl) rfl ?_
  refine vl_v (q_lenS Try.underlying24 rfl) rfl ?_
  refine vl_v (q_move rfl) rfl ?_
  refine vl_v (q_lenS Try.underlying24 rfl) rfl ?_
  first | (refine vl_v (q_add_n (q := 32) rfl rfl (by omega)) rfl ?_) | (refine vl_v (q_add_i rfl rfl (by omega) (by omega)) rfl ?_)
  refine vl_v (q_false (q_neq_n Try.underlying3 rfl rfl) (by simp)) rfl ?_
  refine vl_nil ?_
  refine (th_n ?_)
  refine VC_no (rfl) ?_
  refine VC_skip ?_
  refine (th_n ?_)
  refine VC_seq ?_
  refine VC_region ?_
  first | (refine vl_v (q_loads 1 Try.underlying23 rfl rfl rfl sz23 (by first | omega | with_reducible assumption | (simp only [zb, zu, zw, zi, za]; omega) | (simp only [zs, zr, zm, za, zb, zu, zw, zi, zt, zd, zc, zn, *] <;> first | done | omega) | rfl)) rfl ?_) | (refine vl_v (q_loadsAt 1 Try.underlying23 rfl rfl rfl sz23 (by rfl) (by first | omega | with_reducible assumption | (simp only [zb, zu, zw, zi, za]; omega) | (simp only [zs, zr, zm, za, zb, zu, zw, zi, zt, zd, zc, zn, *] <;> first | done | omega) | rfl)) rfl ?_)
  refine vl_v (q_move rfl) rfl ?_
  refine vl_v (q_move rfl) rfl ?_
  refine l_callT Try.func35 rfl rfl rfl (fun w1 H1 => open5_ok k b cw c c.length hk B A27 b.length (c.length + 32) cb c27 h1 rfl h1.symm (by omega) (by omega) (by rw [h2]; exact h5) (by rw [h2, h3]; exact hm) w1 (Reads.old hB w1 H1) (Reads.row 0 rfl w1 H1) hcb (by omega)) rfl ?_
  intro A38 c38 hc38 hm38
  refine vl_v (q_move rfl) rfl ?_
  refine vl_v (q_ext rfl rfl) rfl ?_
  refine vl_v (q_ext rfl rfl) rfl ?_
  refine vl_v (q_assign rfl) rfl ?_
  refine vl_v (q_assign rfl) rfl ?_
  refine vl_nil ?_
  refine (th_n ?_)
  refine VC_seq ?_
  refine VC_region ?_
  refine l_litA (cs := bys []) Try.underlying24 in5 (by decide) rfl rfl rfl rfl (by first | (with_reducible first | exact bys_one _ | exact u32s_one _ | exact u64s_one _ | exact i64s_one _ | exact n64s_one _ | assumption) | exact bys_one _ | exact u32s_one _ | exact u64s_one _ | exact i64s_one _ | exact one_all rfl | (refine app_one ?_ ?_ <;> first | exact bys_one _ | (simp; done))) rfl rfl ?_
  intro b41
  refine vl_v (q_move rfl) rfl ?_
  refine l_append 0 rfl rfl rfl Try.underlying24 Try.underlying24 in5 rfl (by decide) (Reads.row 2 rfl) (by first | omega | with_reducible assumption | (simp only [zb, zu, zw, zi, za]; omega) | (simp only [zs, zr, zm, za, zb, zu, zw, zi, zt, zd, zc, zn, *] <;> first | done | omega) | rfl) (by first | (with_reducible first | exact bys_one _ | exact u32s_one _ | exact u64s_one _ | exact i64s_one _ | exact n64s_one _ | assumption) | exact bys_one _ | exact u32s_one _ | exact u64s_one _ | exact i64s_one _ | exact one_all rfl | (refine app_one ?_ ?_ <;> first | exact bys_one _ | (simp; done))) (by first | omega | with_reducible assumption | (simp only [zb, zu, zw, zi, za]; omega) | (simp only [zs, zr, zm, za, zb, zu, zw, zi, zt, zd, zc, zn, *] <;> first | done | omega) | rfl) (by first | omega | with_reducible assumption | (simp only [zb, zu, zw, zi, za]; omega) | (simp only [zs, zr, zm, za, zb, zu, zw, zi, zt, zd, zc, zn, *] <;> first | done | omega) | rfl) rfl ?_
  intro A43 c43 hc43
  simp only [List.set_cons_zero, List.set_cons_succ, ← bys_append, ← u32s_append, ← u64s_append, ← i64s_append, List.nil_append, Nat.zero_add]
  refine vl_v (q_assign rfl) rfl ?_
  refine vl_nil ?_
  refine (th_n ?_)
  refine VC_seq ?_
  refine VC_rowBlkM (by omega) ?_
  intro bW more eW hback
  subst eW
  refine VC_region ?_
  refine vl_v (q_move rfl) rfl ?_
  refine vl_v (q_move rfl) rfl ?_
  refine vl_v (q_lenS Try.underlying24 rfl) rfl ?_
  first | (refine vl_v (q_sub_n (q := 1) rfl rfl (by omega) (by omega)) rfl ?_) | (refine vl_v (q_sub_i rfl rfl (by omega) (by omega)) rfl ?_)
  refine vl_v (q_idxS0 Try.underlying24 sz5 rfl rfl (by omega) (by rw [Nat.mul_one, Nat.zero_add])) rfl ?_
  first | (refine vl_v (q_load 0 Try.underlying5 rfl rfl rfl (bys_atA (by first | omega | with_reducible assumption | (simp only [zb, zu, zw, zi, za]; omega) | (simp only [zs, zr, zm, za, zb, zu, zw, zi, zt, zd, zc, zn, *] <;> first | done | omega) | rfl))) rfl ?_) | (refine vl_v (q_load 0 Try.underlying5 rfl rfl rfl rfl) rfl ?_)
  refine vl_v (q_xor_u8 (q := UInt8.ofNat 1) rfl rfl) rfl ?_
  refine vl_v (q_idxS0 Try.underlying24 sz5 rfl rfl (by omega) (by rw [Nat.mul_one, Nat.zero_add])) rfl ?_
  first | (refine l_stBA 0 rfl rfl rfl sz5 (by first | omega | with_reducible assumption | (simp only [zb, zu, zw, zi, za]; omega) | (simp only [zs, zr, zm, za, zb, zu, zw, zi, zt, zd, zc, zn, *] <;> first | done | omega) | rfl) ?_) | (refine l_store1 0 rfl rfl rfl sz5 rfl (by first | decide | simp) ?_)
  simp only [List.set_cons_zero, List.set_cons_succ]
  refine vl_nil ?_
  refine (th_n ?_)
  refine VC_seq ?_
  rw [hbd]
  refine VC_blkRowM (hback _ (by rw [bys_length, bys_length, lbd, h1])) ?_
  refine VC_region ?_
  first | (refine vl_v (q_loads 3 Try.underlying23 rfl rfl rfl sz23 (by first | omega | with_reducible assumption | (simp only [zb, zu, zw, zi, za]; omega) | (simp only [zs, zr, zm, za, zb, zu, zw, zi, zt, zd, zc, zn, *] <;> first | done | omega) | rfl)) rfl ?_) | (refine vl_v (q_loadsAt 3 Try.underlying23 rfl rfl rfl sz23 (by rfl) (by first | omega | with_reducible assumption | (simp only [zb, zu, zw, zi, za]; omega) | (simp only [zs, zr, zm, za, zb, zu, zw, zi, zt, zd, zc, zn, *] <;> first | done | omega) | rfl)) rfl ?_)
  refine vl_v (q_move rfl) rfl ?_
  refine vl_v (q_move rfl) rfl ?_
  refine vl_v (q_callV Try.func35 rfl rfl rfl (fun w1 H1 => open5_no k b bd c.length hk B _ b.length (c.length + 32) cb c43 lbd rfl lbd.symm (by omega) (by omega) (by rw [ebd2]; rw [hm]; exact ebd3) w1 (Reads.old hB w1 H1) (Reads.row 0 rfl w1 H1) hcb (by omega))) rfl ?_
  refine vl_v (q_move rfl) rfl ?_
  refine vl_v (q_ext rfl rfl) rfl ?_
  refine vl_v (q_ext rfl rfl) rfl ?_
  refine vl_v (q_assign rfl) rfl ?_
  refine vl_v (q_assign rfl) rfl ?_
  refine vl_nil ?_
  refine (th_n ?_)
  refine VC_seq ?_
  refine VC_region ?_
  refine vl_v (q_move rfl) rfl ?_
  refine vl_v (q_move rfl) rfl ?_
  refine vl_vg rfl (q_move rfl) rfl ?_
  refine vl_vg rfl (q_true (q_eql_n (q := 0) Try.underlying26 rfl rfl) (decide_eq_true rfl)) rfl ?_
  first | (refine vl_v (q_pickT rfl rfl) rfl ?_) | (refine vl_v (q_pickF rfl rfl) rfl ?_)
  refine vl_v (q_move rfl) rfl ?_
  refine vl_vg rfl (q_move rfl) rfl ?_
  refine vl_vg rfl (q_str (l := c) Try.underlying24 Try.underlying5 Try.underlying9 rfl (Reads.row 1 rfl) rfl) rfl ?_
  refine vl_vg rfl (q_move rfl) rfl ?_
  refine vl_vg rfl (q_str Try.underlying24 Try.underlying5 Try.underlying9 rfl (Reads.old hC) (by first | omega | with_reducible assumption | (simp only [zb, zu, zw, zi, za]; omega) | (simp only [zs, zr, zm, za, zb, zu, zw, zi, zt, zd, zc, zn, *] <;> first | done | omega) | rfl)) rfl ?_
  refine vl_vg rfl (q_true (q_eqStr Try.underlying9 rfl rfl) (decide_eq_true rfl)) rfl ?_
  first | (refine vl_v (q_pickT rfl rfl) rfl ?_) | (refine vl_v (q_pickF rfl rfl) rfl ?_)
  refine vl_v (q_move rfl) rfl ?_
  refine vl_vg rfl (q_move rfl) rfl ?_
  refine vl_vg rfl (q_true (q_eql_n (q := 4) Try.underlying26 rfl rfl) (decide_eq_true rfl)) rfl ?_
  first | (refine vl_v (q_pickT rfl rfl) rfl ?_) | (refine vl_v (q_pickF rfl rfl) rfl ?_)
  refine vl_v (q_assign rfl) rfl ?_
  refine vl_nil ?_
  refine (th_n ?_)
  refine VC_ret ?_
  refine ⟨_, res1 rfl rfl, ?_⟩
  exact rfl
set_option maxHeartbeats 1000000 in
theorem back_long1 (k b c : List UInt8) (B C : Option Addr) (cb cc : Nat) (hb : ¬ b.length ≤ 500) (w : World) :
    Calls Try.prog 12 #[.agg (bys k).toArray, .slice B b.length cb, .slice C c.length cc] w fun e w' => e = .returned (.bool true) ∧ Kept [] w w' := by
  refine enter (n := 75) (R := fun e L => e = .returned (.bool true)) [.agg (bys k).toArray, .slice B b.length cb, .slice C c.length cc] Try.func12 rfl rfl rfl (St.refl w) ?_ (fun e w' L' h H => ⟨h, H.kept⟩)
  refine VC_seq ?_
  refine VC_region ?_
  refine l_boxA rfl rfl ?_
  intro b3
  refine vl_v (q_assign rfl) rfl ?_
  refine vl_nil ?_
  refine (th_n ?_)
  refine VC_seq ?_
  refine VC_region ?_
  refine vl_v (q_callV Try.func33 rfl rfl rfl (fun w1 H1 => awake5_calls w1)) rfl ?_
  refine vl_v (q_assign rfl) rfl ?_
  refine vl_nil ?_
  refine (th_n ?_)
  refine VC_seq ?_
  refine VC_seq ?_
  refine VC_region ?_
  refine vl_v (q_move rfl) rfl ?_
  refine vl_v (q_lenS Try.underlying24 rfl) rfl ?_
  refine vl_v (q_true (q_gtr_n (q := 500) Try.underlying3 rfl rfl) (decide_eq_true (by omega))) rfl ?_
  refine vl_v (q_move rfl) rfl ?_
  refine vl_skip rfl rfl ?_
  refine vl_skip rfl rfl ?_
  refine vl_skip rfl rfl ?_
  first | (refine vl_v (q_pickT rfl rfl) rfl ?_) | (refine vl_v (q_pickF rfl rfl) rfl ?_)
  refine vl_nil ?_
  refine (th_n ?_)
  refine VC_yes (rfl) ?_
  refine VC_seq ?_
  refine VC_region ?_
  refine vl_v (q_move rfl) rfl ?_
  refine vl_v (q_assign rfl) rfl ?_
  refine vl_nil ?_
  refine (th_n ?_)
  refine VC_ret ?_
  refine (th_r ?_)
  refine ⟨_, res1 rfl rfl, ?_⟩
  exact rfl
set_option maxHeartbeats 1000000 in
theorem back_long2 (k b c : List UInt8) (B C : Option Addr) (cb cc : Nat) (hb : b.length ≤ 500) (hc : ¬ c.length ≤ 500) (w : World) :
    Calls Try.prog 12 #[.agg (bys k).toArray, .slice B b.length cb, .slice C c.length cc] w fun e w' => e = .returned (.bool true) ∧ Kept [] w w' := by
  refine enter (n := 75) (R := fun e L => e = .returned (.bool true)) [.agg (bys k).toArray, .slice B b.length cb, .slice C c.length cc] Try.func12 rfl rfl rfl (St.refl w) ?_ (fun e w' L' h H => ⟨h, H.kept⟩)
  refine VC_seq ?_
  refine VC_region ?_
  refine l_boxA rfl rfl ?_
  intro b3
  refine vl_v (q_assign rfl) rfl ?_
  refine vl_nil ?_
  refine (th_n ?_)
  refine VC_seq ?_
  refine VC_region ?_
  refine vl_v (q_callV Try.func33 rfl rfl rfl (fun w1 H1 => awake5_calls w1)) rfl ?_
  refine vl_v (q_assign rfl) rfl ?_
  refine vl_nil ?_
  refine (th_n ?_)
  refine VC_seq ?_
  refine VC_seq ?_
  refine VC_region ?_
  refine vl_v (q_move rfl) rfl ?_
  refine vl_v (q_lenS Try.underlying24 rfl) rfl ?_
  refine vl_v (q_false (q_gtr_n (q := 500) Try.underlying3 rfl rfl) (by simp; omega)) rfl ?_
  refine vl_v (q_move rfl) rfl ?_
  refine vl_vg rfl (q_move rfl) rfl ?_
  refine vl_vg rfl (q_lenS Try.underlying24 rfl) rfl ?_
  refine vl_vg rfl (q_true (q_gtr_n (q := 500) Try.underlying3 rfl rfl) (decide_eq_true (by omega))) rfl ?_
  first | (refine vl_v (q_pickT rfl rfl) rfl ?_) | (refine vl_v (q_pickF rfl rfl) rfl ?_)
  refine vl_nil ?_
  refine (th_n ?_)
  refine VC_yes (rfl) ?_
  refine VC_seq ?_
  refine VC_region ?_
  refine vl_v (q_move rfl) rfl ?_
  refine vl_v (q_assign rfl) rfl ?_
  refine vl_nil ?_
  refine (th_n ?_)
  refine VC_ret ?_
  refine (th_r ?_)
  refine ⟨_, res1 rfl rfl, ?_⟩
  exact rfl
theorem sealBack.walk (w : World) (v0 : Value) (k : List UInt8) (h0 : KeyV v0 k) (v1 : Value) (b : List UInt8) (h1 : BsArg w v1 b) (v2 : Value) (c : List UInt8) (h2 : BsArg w v2 c) :
    Calls Try.prog 12 #[v0, v1, v2] w fun e w' => e = .returned (.bool true) ∧ Kept [] w w' := by
  obtain ⟨rfl, hk⟩ := h0
  obtain ⟨B, cb, rfl, hcb, _, hB⟩ := h1
  obtain ⟨C, cc, rfl, hcc, _, hC⟩ := h2
  by_cases hb : b.length ≤ 500
  · by_cases hc : c.length ≤ 500
    · exact back_good k b c B C cb cc hk hb hc hcb hcc w hB hC
    · exact back_long2 k b c B C cb cc hb hc w
  · exact back_long1 k b c B C cb cc hb w

namespace sealBack
open Go.ChangeShapes Go.WideShapes Go.ChangeAt Go.RowKit
theorem own : ownKnob Try.prog.godebug = none := by kernel_rfl
theorem laidOut : laidOutB Try.prog = true := by kernel_rfl
set_option maxRecDepth 100000 in
theorem lifted (os : Os) (started : os.Started) (H : Type) (enc : TypeId × Value → H) :
    ReturnsInHanded {} Try.checked os 12 .any (Rows.sealBackSpec.pre6 enc Try.prog Try.f12 Rows.sealBackRow.domain false) (Rows.sealBackSpec.post enc Try.prog Try.f12 false true false false) := by
  refine returnsInHanded_of_change (C := Try.checked) own started (by kernel_rfl) Try.func12
    (ChangeSpec.witness6 (enc := enc) (C := Try.checked) false ⟨#[], #[(.agg (List.replicate 32 (Value.int .u8 0)).toArray), .slice none 0 0, .slice none 0 0], []⟩ 8 (by kernel_rfl) (by kernel_rfl) (by kernel_rfl) (by kernel_rfl)) ?_
  intro W base args ds gs before hval0 hW hcnd _
  have hval : ∀ (j : Nat) t v, Try.f12.params[j]? = some t → args[j]? = some v → Value.okWide Try.prog W .any base t v := hval0
  have hW' := hW
  obtain ⟨p, q, hA0, hV, rfl, hfz, hnd⟩ := hW
  have hA : DataW.TrodAll enc Try.prog W 0 (fun _ => true) true Try.f12.params.toList args.toList ds p := hA0
  rw [Try.params12] at hA hval
  obtain ⟨v0, vs0, d0, ds0, p0, q0, hargs, rfl, rfl, h0, r0⟩ := trodAll_cons hA
  obtain ⟨v1, vs1, d1, ds1, p1, q1, rfl, rfl, rfl, h1, r1⟩ := trodAll_cons r0
  obtain ⟨v2, vs2, d2, ds2, p2, q2, rfl, rfl, rfl, h2, r2⟩ := trodAll_cons r1
  obtain ⟨rfl, rfl, rfl⟩ := trodAll_nil r2
  obtain rfl : args = #[v0, v1, v2] := by cases args; simp_all
  obtain ⟨rfl, rfl⟩ := trodVars_none hV
  have k0 := h0
  have lt0 : ∀ x ∈ p0, x.block < W.heap.size := by obtain ⟨m, hm⟩ := k0; exact DataW.trod_lt m _ _ _ hm
  have k1 := h1
  have lt1 : ∀ x ∈ p1, x.block < W.heap.size := by obtain ⟨m, hm⟩ := k1; exact DataW.trod_lt m _ _ _ hm
  have k2 := h2
  have lt2 : ∀ x ∈ p2, x.block < W.heap.size := by obtain ⟨m, hm⟩ := k2; exact DataW.trod_lt m _ _ _ hm
  obtain ⟨cs0, e0, f0⟩ := open_flat (ks := (List.replicate 32 .u8)) 6 (by kernel_rfl) (by kernel_rfl) (hval 0 23 v0 rfl rfl) h0
  subst e0
  obtain ⟨l0, g0⟩ := open_key f0
  obtain ⟨l1, g1⟩ := open_bytes Try.underlying24 Try.underlying5 (by kernel_rfl) (hval 1 24 v1 rfl rfl) h1
  obtain ⟨l2, g2⟩ := open_bytes Try.underlying24 Try.underlying5 (by kernel_rfl) (hval 2 24 v2 rfl rfl) h2
  clear hA0 hval0
  refine (sealBack.walk W _ l0 g0 v1 l1 g1 v2 l2 g2).mono fun e W' ⟨he, hK⟩ => ?_
  subst he
  have bel := hK.below
  exact ⟨_, rfl, _, _, _, [], _, [], hW', trodAll_mk1 (shut_bool Try.underlying4 _), (trodAll_cons_mk (Below.trod laidOut (by kernel_rfl) (of_decide_eq_true (by kernel_rfl)) k0 bel lt0) (trodAll_cons_mk (Below.trod laidOut (by kernel_rfl) (of_decide_eq_true (by kernel_rfl)) k1 bel lt1) (trodAll_cons_mk (Below.trod laidOut (by kernel_rfl) (of_decide_eq_true (by kernel_rfl)) k2 bel lt2) trodAll_mk0))), rfl, bel.frame _, fun h => by cases h⟩
theorem over : Rows.sealBackRow.holds Try.pinned (OpenSpec.ofChange Rows.sealBackSpec) :=
  OpenClaim.holds_of_wide 12 Try.f12 rfl rfl rfl rfl rfl rfl rfl ⟨rfl, rfl, rfl, rfl, rfl⟩ rfl rfl rfl rfl rfl (by kernel_rfl) Try.func12 (by kernel_rfl)
    (of_decide_eq_true (by kernel_rfl)) (by unfold Func.isWrapper; first | (rw [if_pos (by decide +kernel)]; kernel_rfl) | (rw [if_neg (by decide +kernel)]; exact ⟨rfl, rfl⟩))
    (fun os started H enc _ => lifted os started H enc)
theorem proved : Rows.SealBackSaid := over
end sealBack
/-- The row. -/
theorem sealBack_holds : Rows.SealBackSaid := sealBack.proved
#print axioms sealBack_holds
end Go.Proofs.Ytkadnmoephkklaa
