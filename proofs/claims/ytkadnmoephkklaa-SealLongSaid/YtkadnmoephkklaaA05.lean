/- Chapter 05: what is closed is opened; the law is awake. Conditions: lengths. -/
import Derived.Test.YtkadnmoephkklaaD05
namespace Go.Proofs.Ytkadnmoephkklaa
open Go.RowKit Go.PBYtkadnmoephkklaa
set_option linter.unusedVariables false
set_option linter.unusedSimpArgs false
set_option maxRecDepth 10000

theorem turnW_twice (k b : List UInt8) : turnW k (turnW k b) = b := turn_twice ..
theorem closeW_take (k b t : List UInt8) : (closeW k b t).take t.length = turnW k t := by rw [closeW, List.take_left' (turnW_length k t)]
theorem closeW_drop (k b t : List UInt8) : (closeW k b t).drop t.length = markW k b (turnW k t) := by rw [closeW, List.drop_left' (turnW_length k t)]
section
variable (k b c u m : List UInt8) (n : Nat) (hk : k.length = 32) (B C : Option Addr) (lb lc cb cc : Nat) (hn : c.length = n + 32) (hlb : lb = b.length) (hlc : lc = c.length) (hb : b.length ≤ 10000) (hc : c.length ≤ 10000)
include hk hn hlb hlc hb hc
theorem open5_ok (hu : turnW k (c.take n) = u) (hmt : markW k b (c.take n) = c.drop n) (w : World) (hB : SlAt w B (bys b)) (hC : SlAt w C (bys c)) (hcb : lb ≤ cb) (hcc : lc ≤ cc) :
    Calls Try.prog 35 #[.agg (bys k).toArray, .slice B lb cb, .slice C lc cc] w fun e w' => ∃ v, e = .returned (.tuple #[v, .int .i64 0]) ∧ St [] w [.row 5 1 v n (bys u)] w' := by
  subst hu
  exact open5_good k b c _ _ _ _ _ n rfl rfl rfl rfl hk B C lb lc cb cc hn rfl hlb hlc hb hc hmt w hB hC hcb hcc
theorem open5_no (hmt : ¬ markW k b (c.take n) = c.drop n) (w : World) (hB : SlAt w B (bys b)) (hC : SlAt w C (bys c)) (hcb : lb ≤ cb) (hcc : lc ≤ cc) :
    Calls Try.prog 35 #[.agg (bys k).toArray, .slice B lb cb, .slice C lc cc] w fun e w' => e = .returned (.tuple #[.slice none 0 0, .int .i64 4]) ∧ Kept [] w w' :=
  open5_bad k b c _ _ _ [] _ n rfl rfl rfl hk B C lb lc cb cc hn rfl hlb hlc hb hc hmt w hB hC hcb hcc
theorem ropen5_ok (hu : turnW k (c.take n) = u) (hmt : markW k b (c.take n) = c.drop n) (w : World) (hB : SlAt w B (bys b)) (hC : SlAt w C (bys c)) (hcb : lb ≤ cb) (hcc : lc ≤ cc) :
    Calls Try.prog 38 #[.agg (bys k).toArray, .slice B lb cb, .slice C lc cc] w fun e w' => ∃ v, e = .returned (.tuple #[v, .int .i64 0]) ∧ St [] w [.row 5 1 v n (bys u)] w' := by
  subst hu
  exact ropen5_good k b c _ _ _ _ _ n rfl rfl rfl rfl hk B C lb lc cb cc hn rfl hlb hlc hb hc hmt w hB hC hcb hcc
theorem ropen5_no (hmt : ¬ markW k b (c.take n) = c.drop n) (w : World) (hB : SlAt w B (bys b)) (hC : SlAt w C (bys c)) (hcb : lb ≤ cb) (hcc : lc ≤ cc) :
    Calls Try.prog 38 #[.agg (bys k).toArray, .slice B lb cb, .slice C lc cc] w fun e w' => e = .returned (.tuple #[.slice none 0 0, .int .i64 4]) ∧ Kept [] w w' :=
  ropen5_bad k b c _ _ _ n rfl rfl hk B C lb lc cb cc hn rfl hlb hlc hb hc hmt w hB hC hcb hcc
end
def hello : List UInt8 := [104, 101, 108, 108, 111]
theorem aw5 : decide (markW k1 [] (turnW k1 hello) = markW k1 [120] (turnW k1 hello)) = false := by kernel_rfl
set_option maxHeartbeats 2000000 in
theorem awake5_calls (w : World) : Calls Try.prog 33 #[] w fun e w' => e = .returned (.bool true) ∧ Kept [] w w' := by
  have h1 := closeW_length k1 [120] hello
  have h2 := closeW_take k1 [120] hello
  have h3 := closeW_drop k1 [120] hello
  have h4 := of_decide_eq_false aw5
  have h5 := turnW_twice k1 hello
  obtain ⟨u, hu⟩ : ∃ u, turnW k1 hello = u := ⟨_, rfl⟩
  obtain ⟨m, hm⟩ : ∃ m, markW k1 [120] u = m := ⟨_, rfl⟩
  obtain ⟨cw, hcw⟩ : ∃ c, closeW k1 [120] hello = c := ⟨_, rfl⟩
  rw [hu] at h2 h3 h4 h5
  rw [hm] at h3 h4
  rw [hcw] at h1 h2 h3
  have lh : hello.length = 5 := rfl
  have hl : cw.length = 37 := h1
  have h2 : cw.take 5 = u := h2
  have h3 : cw.drop 5 = m := h3
  clear h1
  refine enter (n := 42) (R := fun e L => e = .returned (.bool true)) [] Try.func33 rfl rfl rfl (St.refl w) ?_ (fun e w' L' h H => ⟨h, H.kept⟩)
  refine VC_seq ?_
  refine VC_region ?_
  refine vl_v (q_assign rfl) rfl ?_
  refine vl_nil ?_
  refine (th_n ?_)
  refine VC_seq ?_
  refine VC_region ?_
  refine vl_v (q_build (c' := bys k1) rfl (by kernel_rfl)) rfl ?_
  refine l_litA (cs := bys [UInt8.ofNat 120]) Try.underlying24 in5 (by decide) rfl rfl rfl rfl (by first | (with_reducible first | exact bys_one _ | exact u32s_one _ | exact u64s_one _ | exact i64s_one _ | exact n64s_one _ | assumption) | exact bys_one _ | exact u32s_one _ | exact u64s_one _ | exact i64s_one _ | exact one_all rfl | (refine app_one ?_ ?_ <;> first | exact bys_one _ | (simp; done))) rfl rfl ?_
  intro b7
  refine l_convS 0 Try.underlying24 Try.underlying5 rfl rfl rfl ?_
  refine l_litA (cs := bys [UInt8.ofNat 104, UInt8.ofNat 101, UInt8.ofNat 108, UInt8.ofNat 108, UInt8.ofNat 111]) Try.underlying24 in5 (by decide) rfl rfl rfl rfl (by first | (with_reducible first | exact bys_one _ | exact u32s_one _ | exact u64s_one _ | exact i64s_one _ | exact n64s_one _ | assumption) | exact bys_one _ | exact u32s_one _ | exact u64s_one _ | exact i64s_one _ | exact one_all rfl | (refine app_one ?_ ?_ <;> first | exact bys_one _ | (simp; done))) rfl rfl ?_
  intro b9
  refine l_convS 0 Try.underlying24 Try.underlying5 rfl rfl rfl ?_
  refine l_callR Try.func34 rfl rfl rfl (fun w1 H1 => by have h := close5_calls k1 [120] hello rfl _ _ 1 5 1 5 rfl rfl (by decide) (by decide) w1 (Reads.row 1 rfl w1 H1) (Reads.row 0 rfl w1 H1) (by omega) (by omega); rw [hcw] at h; exact h) rfl ?_
  intro A11 c11 hc11 hm11
  refine vl_v (q_assign rfl) rfl ?_
  refine vl_nil ?_
  refine (th_n ?_)
  refine VC_seq ?_
  refine VC_region ?_
  refine vl_v (q_build (c' := bys k1) rfl (by kernel_rfl)) rfl ?_
  refine l_litA (cs := bys [UInt8.ofNat 120]) Try.underlying24 in5 (by decide) rfl rfl rfl rfl (by first | (with_reducible first | exact bys_one _ | exact u32s_one _ | exact u64s_one _ | exact i64s_one _ | exact n64s_one _ | assumption) | exact bys_one _ | exact u32s_one _ | exact u64s_one _ | exact i64s_one _ | exact one_all rfl | (refine app_one ?_ ?_ <;> first | exact bys_one _ | (simp; done))) rfl rfl ?_
  intro b14
  refine l_convS 0 Try.underlying24 Try.underlying5 rfl rfl rfl ?_
  refine vl_v (q_move rfl) rfl ?_
  refine l_callT Try.func35 rfl rfl rfl (fun w1 H1 => open5_ok k1 [120] cw hello 5 rfl _ _ 1 37 1 c11 hl rfl hl.symm (by decide) (by omega) (by rw [h2]; exact h5) (by rw [h2, h3]; exact hm) w1 (Reads.row 0 rfl w1 H1) (Reads.row 1 rfl w1 H1) (by omega) (by omega)) rfl ?_
  intro A17 c17 hc17 hm17
  refine vl_v (q_move rfl) rfl ?_
  refine vl_v (q_ext rfl rfl) rfl ?_
  refine vl_v (q_ext rfl rfl) rfl ?_
  refine vl_v (q_assign rfl) rfl ?_
  refine vl_v (q_assign rfl) rfl ?_
  refine vl_nil ?_
  refine (th_n ?_)
  refine VC_seq ?_
  refine VC_region ?_
  refine vl_v (q_build (c' := bys k1) rfl (by kernel_rfl)) rfl ?_
  refine vl_v (q_move rfl) rfl ?_
  refine vl_v (q_callV Try.func35 rfl rfl rfl (fun w1 H1 => open5_no k1 [] cw 5 rfl _ _ 0 37 0 c11 hl rfl hl.symm (by decide) (by omega) (by rw [h2, h3]; exact h4) w1 (SlAt.nil _ _) (Reads.row 2 rfl w1 H1) (by omega) (by omega))) rfl ?_
  refine vl_v (q_move rfl) rfl ?_
  refine vl_v (q_ext rfl rfl) rfl ?_
  refine vl_v (q_ext rfl rfl) rfl ?_
  refine vl_v (q_assign rfl) rfl ?_
  refine vl_v (q_assign rfl) rfl ?_
  refine vl_nil ?_
  refine (th_n ?_)
  refine VC_seq ?_
  refine VC_region ?_
  refine vl_v (q_move rfl) rfl ?_
  refine vl_v (q_lenS Try.underlying24 rfl) rfl ?_
  refine vl_v (q_true (q_eql_n (q := 37) Try.underlying3 rfl rfl) (decide_eq_true rfl)) rfl ?_
  refine vl_v (q_move rfl) rfl ?_
  refine vl_vg rfl (q_move rfl) rfl ?_
  refine vl_vg rfl (q_str (l := hello) Try.underlying24 Try.underlying5 Try.underlying9 rfl (Reads.row 0 rfl) rfl) rfl ?_
  refine vl_vg rfl (q_true (q_eqStr (m := hello) Try.underlying9 rfl rfl) (decide_eq_true rfl)) rfl ?_
  first | (refine vl_v (q_pickT rfl rfl) rfl ?_) | (refine vl_v (q_pickF rfl rfl) rfl ?_)
  refine vl_v (q_move rfl) rfl ?_
  refine vl_vg rfl (q_move rfl) rfl ?_
  refine vl_vg rfl (q_true (q_eql_n (q := 0) Try.underlying26 rfl rfl) (decide_eq_true rfl)) rfl ?_
  first | (refine vl_v (q_pickT rfl rfl) rfl ?_) | (refine vl_v (q_pickF rfl rfl) rfl ?_)
  refine vl_v (q_move rfl) rfl ?_
  refine vl_vg rfl (q_move rfl) rfl ?_
  refine vl_vg rfl (q_true (q_eql_n (q := 4) Try.underlying26 rfl rfl) (decide_eq_true rfl)) rfl ?_
  first | (refine vl_v (q_pickT rfl rfl) rfl ?_) | (refine vl_v (q_pickF rfl rfl) rfl ?_)
  refine vl_v (q_assign rfl) rfl ?_
  refine vl_nil ?_
  refine (th_n ?_)
  refine VC_ret ?_
  refine ⟨_, res1 rfl rfl, ?_⟩
  exact rfl
end Go.Proofs.Ytkadnmoephkklaa
