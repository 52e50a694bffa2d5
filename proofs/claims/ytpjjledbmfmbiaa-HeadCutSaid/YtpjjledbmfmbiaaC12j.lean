/- What head.ReadEnvelope does: the envelope of any bytes. Conditions: lengths that memory bears. -/
import Derived.Test.YtpjjledbmfmbiaaC12i
import Derived.Test.YtpjjledbmfmbiaaA12b
namespace Go.PBYtpjjledbmfmbiaa
open Go Go.RowKit
set_option linter.unusedVariables false
def zEnvD : EnvD := ⟨0, 0, List.replicate 32 0, List.replicate 32 0, 0, 0, []⟩
def reX1 (l : List UInt8) : EnvD := ⟨reF l, reT l, reC l, rdP (l.drop 34), rdM (l.drop 34), rdN (l.drop 34), (l.drop 76).take (reN l)⟩
/-- the envelope of any bytes -/
def reX (l : List UInt8) : EnvD := if reE l = 0 then reX1 l else zEnvD
abbrev envOf (X : EnvD) (x : Option Addr × Nat) : List Value := envC X.f X.t X.cm X.pub X.p X.q (.slice x.1 X.body.length x.2)
abbrev bodyR (T : TypeId) (b : List UInt8) (x : Option Addr × Nat) : Res := .row T 1 (.slice x.1 b.length x.2) b.length (bys b)
theorem reX_cm (l : List UInt8) : (reX l).cm.length = 32 := by
  unfold reX
  split
  · rename_i h
    unfold reE at h
    by_cases h1 : l.length < 76
    · rw [if_pos h1] at h; cases h
    · show ((l.drop 2).take 32).length = 32
      simp; omega
  · show (List.replicate 32 (0 : UInt8)).length = 32
    simp
theorem reX_pub (l : List UInt8) : (reX l).pub.length = 32 := by
  unfold reX
  split
  · rename_i h
    unfold reE at h
    by_cases h1 : l.length < 76
    · rw [if_pos h1] at h; cases h
    · show ((l.drop 34).take 32).length = 32
      simp; omega
  · show (List.replicate 32 (0 : UInt8)).length = 32
    simp
end Go.PBYtpjjledbmfmbiaa
namespace Go.Proofs.Ytpjjledbmfmbiaa
open Go.RowKit Go.PBYtpjjledbmfmbiaa
set_option linter.unusedVariables false
set_option linter.unusedSimpArgs false
set_option maxRecDepth 10000

theorem zEnvC_eq : [Value.int .i64 0] ++ [Value.int .i64 0] ++ bys (List.replicate 32 0) ++ bys (List.replicate 32 0) ++ [Value.int .i64 0] ++ [Value.int .i64 0] ++ [Value.slice none 0 0] = zEnvC := by
  simp [zEnvC, envC, headC, List.append_assoc]
def re1Ok (w0 : World) (A : Option Addr) (m c : Nat) (f t : Int) (cm pub : List UInt8) (p q : Int) (n : Nat) (body : List UInt8) : Prop :=
  ∀ (b5 b9 b4 : Nat) (x1 x2 : Res) (w : World), St [] w0 [.blk b5 46 [vP b9 0], .blk b9 48 [.slice A m c], .blk b4 35 zEnvC, x1, x2] w →
    Calls Try.prog 29 #[vP b5 0, vP b4 0] w fun e w' => e = gaveUp none ∧ ∃ x, St [] w0 (x1 :: reL b5 b9 b4 x2 f t cm pub p q n body x) w'
def re1Bad (w0 : World) (A : Option Addr) (m c k : Nat) : Prop :=
  ∀ (b5 b9 b4 : Nat) (x1 x2 : Res) (w : World), St [] w0 [.blk b5 46 [vP b9 0], .blk b9 48 [.slice A m c], .blk b4 35 zEnvC, x1, x2] w →
    Calls Try.prog 29 #[vP b5 0, vP b4 0] w fun e w' => e = gaveUp (some k) ∧ ∃ x, St [] w0 (x1 :: rxL b5 b9 b4 x2 x) w'
theorem re_wrong {w0 : World} {A : Option Addr} {m c n : Nat} {f t p q : Int} {cm pub body : List UInt8} (hG : re1Ok w0 A m c f t cm pub p q n body) (b5 b9 b4 : Nat) (x2 : Res) (w : World) (H : St [] w0 [.blk b5 46 [vP b9 0], .blk b9 48 [.slice A m c], .blk b4 35 zEnvC, x2] w) :
    Calls Try.prog 22 #[.func (.func 29) #[] [vP b5 0, vP b4 0].toArray] w (fun e w' => e = .returned (vN 0) ∧ ∃ x, St [] w0 (reL b5 b9 b4 x2 f t cm pub p q n body x) w') :=
  wrong_calls (L1 := fun x => reL b5 b9 b4 x2 f t cm pub p q n body x) none Try.func29 rfl rfl (fun b w2 H2 => hG b5 b9 b4 (.blk b 28 [vI 0]) x2 w2 (H2.pick (ks := [1, 2, 3, 0, 4]) (by decide) rfl)) w H
theorem re_wrongX {w0 : World} {A : Option Addr} {m c k : Nat} (hG : re1Bad w0 A m c k) (b5 b9 b4 : Nat) (x2 : Res) (w : World) (H : St [] w0 [.blk b5 46 [vP b9 0], .blk b9 48 [.slice A m c], .blk b4 35 zEnvC, x2] w) :
    Calls Try.prog 22 #[.func (.func 29) #[] [vP b5 0, vP b4 0].toArray] w (fun e w' => e = .returned (vN k) ∧ ∃ x, St [] w0 (rxL b5 b9 b4 x2 x) w') :=
  wrong_calls (L1 := fun x => rxL b5 b9 b4 x2 x) (some k) Try.func29 rfl rfl (fun b w2 H2 => hG b5 b9 b4 (.blk b 28 [vI 0]) x2 w2 (H2.pick (ks := [1, 2, 3, 0, 4]) (by decide) rfl)) w H
theorem re_none {w : World} {A : Option Addr} {m c n : Nat} {f t p q : Int} {cm pub body : List UInt8} (hc : cm.length = 32) (hp : pub.length = 32) (hG : re1Ok w A m c f t cm pub p q n body) :
    Calls Try.prog 15 #[.slice A m c] w fun e w' => ∃ x : Option Addr × Nat, e = .returned (.tuple #[.agg (envC f t cm pub p q (.slice x.1 n x.2)).toArray, vN 0]) ∧ St [] w [.row 5 1 (.slice x.1 n x.2) n (bys body)] w' := by
  have hz := zEnvC_length
  have elen := fun (s : Value) => envC_len (f := f) (t := t) (p := p) (q := q) (sl := s) hc hp
  have eone := fun (A : Option Addr) (n c : Nat) => envC_one (f := f) (t := t) (p := p) (q := q) (cm := cm) (pub := pub) (sl := .slice A n c) rfl
  refine enter (n := 17) (R := fun e M => ∃ x : Option Addr × Nat, e = .returned (.tuple #[.agg (envC f t cm pub p q (.slice x.1 n x.2)).toArray, vN 0]) ∧ ∀ w', St [] w M w' → St [] w [.row 5 1 (.slice x.1 n x.2) n (bys body)] w') [.slice A m c] Try.func15 rfl rfl rfl (St.refl w) ?_ (fun e w' L' h H => by obtain ⟨x, h1, h2⟩ := h; exact ⟨x, h1, h2 w' H⟩)
  refine VC_seq ?_
  refine VC_region ?_
  refine l_allocA zr35 rfl ?_
  intro b2
  refine vl_v (q_assign rfl) rfl ?_
  refine vl_nil ?_
  refine (th_n ?_)
  refine VC_seq ?_
  refine VC_region ?_
  refine l_allocA zr35 rfl ?_
  intro b4
  refine vl_nil ?_
  refine (th_n ?_)
  refine VC_seq ?_
  refine VC_region ?_
  refine vl_v (q_move rfl) rfl ?_
  refine vl_v (q_buildS (tot := 1) (sizes := [1]) (c' := [.slice A m c]) (by kernel_rfl) rfl rfl rfl rfl rfl rfl) rfl ?_
  refine l_boxA rfl rfl ?_
  intro b9
  refine l_alloc1 zr46 rfl rfl ?_
  intro b5
  refine l_store1 0 rfl rfl rfl sz46 rfl (by first | decide | (simp; done) | first | assumption | exact elen _ | omega | (rw [zEnvC_eq]; assumption)) ?_
  simp only [List.set_cons_zero, List.set_cons_succ]
  refine vl_nil ?_
  refine (th_n ?_)
  refine VC_seq ?_
  refine VC_region ?_
  rw [zEnvC_eq]
  refine vl_v (q_makeFunc rfl) rfl ?_
  refine l_callF Try.func22 rfl rfl rfl (fun w1 H1 => re_wrong hG _ _ _ _ w1 H1) rfl ?_
  intro x11
  refine vl_v (q_assign rfl) rfl ?_
  refine vl_nil ?_
  refine (th_n ?_)
  refine VC_seq ?_
  refine VC_seq ?_
  refine VC_region ?_
  refine vl_v (q_move rfl) rfl ?_
  first | (refine vl_v (q_neq_n (q := 0) Try.underlying28 rfl rfl) rfl ?_) | (refine vl_v (q_neq_k Try.underlying28 rfl rfl) rfl ?_)
  refine vl_nil ?_
  refine (th_n ?_)
  refine VC_no (rfl) ?_
  refine VC_skip ?_
  refine (th_n ?_)
  refine VC_seq ?_
  refine VC_region ?_
  first | (refine vl_v (q_loads 3 Try.underlying35 rfl rfl rfl sz35 (by first | assumption | exact elen _ | omega | (rw [zEnvC_eq]; assumption))) rfl ?_) | (refine vl_v (q_loadsAt 3 Try.underlying35 rfl rfl rfl sz35 (by rfl) (by first | assumption | exact elen _ | omega | (rw [zEnvC_eq]; assumption))) rfl ?_)
  refine l_storeA 4 rfl rfl rfl sz35 (elen _) (eone _ _ _) (by first | assumption | (rw [zEnvC_eq]; assumption)) ?_
  simp only [List.set_cons_zero, List.set_cons_succ]
  refine vl_v (q_assign rfl) rfl ?_
  refine vl_nil ?_
  refine (th_n ?_)
  refine VC_ret ?_
  refine ⟨_, resC2 4 rfl Try.underlying35 rfl rfl rfl sz35 (by first | assumption | exact elen _ | omega | (rw [zEnvC_eq]; assumption)) rfl, ?_⟩
  exact ⟨(x11.2.1, x11.2.2), rfl, fun w' H => H.pick (ks := [0]) (by decide) rfl⟩
theorem re_some {w : World} {A : Option Addr} {m c k : Nat} (hk : k ≠ 0) (hG : re1Bad w A m c k) :
    Calls Try.prog 15 #[.slice A m c] w fun e w' => e = .returned (.tuple #[.agg zEnvC.toArray, vN k]) ∧ Kept [] w w' := by
  have hz := zEnvC_length
  have hzo := zEnvC_one
  refine enter (n := 17) (R := fun e M => e = .returned (.tuple #[.agg zEnvC.toArray, vN k])) [.slice A m c] Try.func15 rfl rfl rfl (St.refl w) ?_ (fun e w' L' h H => ⟨h, H.kept⟩)
  refine VC_seq ?_
  refine VC_region ?_
  refine l_allocA zr35 rfl ?_
  intro b2
  refine vl_v (q_assign rfl) rfl ?_
  refine vl_nil ?_
  refine (th_n ?_)
  refine VC_seq ?_
  refine VC_region ?_
  refine l_allocA zr35 rfl ?_
  intro b4
  refine vl_nil ?_
  refine (th_n ?_)
  refine VC_seq ?_
  refine VC_region ?_
  refine vl_v (q_move rfl) rfl ?_
  refine vl_v (q_buildS (tot := 1) (sizes := [1]) (c' := [.slice A m c]) (by kernel_rfl) rfl rfl rfl rfl rfl rfl) rfl ?_
  refine l_boxA rfl rfl ?_
  intro b9
  refine l_alloc1 zr46 rfl rfl ?_
  intro b5
  refine l_store1 0 rfl rfl rfl sz46 rfl (by first | decide | (simp; done) | first | assumption | omega | (rw [zEnvC_eq]; assumption)) ?_
  simp only [List.set_cons_zero, List.set_cons_succ]
  refine vl_nil ?_
  refine (th_n ?_)
  refine VC_seq ?_
  refine VC_region ?_
  rw [zEnvC_eq]
  refine vl_v (q_makeFunc rfl) rfl ?_
  refine l_callF Try.func22 rfl rfl rfl (fun w1 H1 => re_wrongX hG _ _ _ _ w1 H1) rfl ?_
  intro x11
  refine vl_v (q_assign rfl) rfl ?_
  refine vl_nil ?_
  refine (th_n ?_)
  refine VC_seq ?_
  refine VC_seq ?_
  refine VC_region ?_
  refine vl_v (q_move rfl) rfl ?_
  refine vl_v (q_as (v := .bool true) (q_neq_n (q := 0) Try.underlying28 rfl rfl) (congrArg Value.bool (by simpa using hk))) rfl ?_
  refine vl_nil ?_
  refine (th_n ?_)
  refine VC_yes (rfl) ?_
  refine VC_seq ?_
  refine VC_region ?_
  refine vl_v (q_build (c' := zEnvC) rfl (by kernel_rfl)) rfl ?_
  refine vl_v (q_move rfl) rfl ?_
  refine l_storeA 3 rfl rfl rfl sz35 (by first | assumption | omega | (rw [zEnvC_eq]; assumption)) (by first | (with_reducible first | exact bys_one _ | exact u32s_one _ | exact u64s_one _ | exact i64s_one _ | exact n64s_one _ | assumption) | exact bys_one _ | exact u32s_one _ | exact u64s_one _ | exact i64s_one _ | exact one_all rfl | (refine app_one ?_ ?_ <;> first | exact bys_one _ | exact one_all rfl | (simp; done))) (by first | assumption | omega | (rw [zEnvC_eq]; assumption)) ?_
  simp only [List.set_cons_zero, List.set_cons_succ]
  refine vl_v (q_assign rfl) rfl ?_
  refine vl_nil ?_
  refine (th_n ?_)
  refine VC_ret ?_
  refine (th_r ?_)
  refine ⟨_, resC2 3 rfl Try.underlying35 rfl rfl rfl sz35 (by first | assumption | omega | (rw [zEnvC_eq]; assumption)) rfl, ?_⟩
  exact rfl
/-- the envelope of any bytes -/
def reCalls (F : FuncId) (l : List UInt8) (A : Option Addr) (m c : Nat) (w : World) : Prop :=
  Calls Try.prog F #[.slice A m c] w fun e w' => ∃ x, e = .returned (.tuple #[.agg (envOf (reX l) x).toArray, vN (reE l)]) ∧ St [] w [bodyR 5 (reX l).body x] w'
theorem reCalls_ok {F : FuncId} {l : List UInt8} {A : Option Addr} {m c : Nat} {w : World} (h0 : reE l = 0) (hn : ((l.drop 76).take (reN l)).length = reN l)
    (h : Calls Try.prog F #[.slice A m c] w fun e w' => ∃ x : Option Addr × Nat, e = .returned (.tuple #[.agg (envC (reF l) (reT l) (reC l) (rdP (l.drop 34)) (rdM (l.drop 34)) (rdN (l.drop 34)) (.slice x.1 (reN l) x.2)).toArray, vN 0]) ∧ St [] w [.row 5 1 (.slice x.1 (reN l) x.2) (reN l) (bys ((l.drop 76).take (reN l)))] w') : reCalls F l A m c w := by
  have e : reX l = reX1 l := if_pos h0
  unfold reCalls
  rw [e, h0]
  show Calls Try.prog F #[.slice A m c] w fun e w' => ∃ x : Option Addr × Nat, e = .returned (.tuple #[.agg (envC (reF l) (reT l) (reC l) (rdP (l.drop 34)) (rdM (l.drop 34)) (rdN (l.drop 34)) (.slice x.1 ((l.drop 76).take (reN l)).length x.2)).toArray, vN 0]) ∧ St [] w [.row 5 1 (.slice x.1 ((l.drop 76).take (reN l)).length x.2) ((l.drop 76).take (reN l)).length (bys ((l.drop 76).take (reN l)))] w'
  rw [hn]
  exact h
theorem reCalls_bad {F : FuncId} {l : List UInt8} {A : Option Addr} {m c k : Nat} {w : World} (h0 : reE l = k) (hk : k ≠ 0)
    (h : Calls Try.prog F #[.slice A m c] w fun e w' => e = .returned (.tuple #[.agg zEnvC.toArray, vN k]) ∧ Kept [] w w') : reCalls F l A m c w := by
  have e : reX l = zEnvD := if_neg (by rw [h0]; exact hk)
  unfold reCalls
  rw [e, h0]
  exact h.mono fun e w' ⟨h1, h2⟩ => ⟨(none, 0), h1, ((St.refl w).keep h2).addNil _ _⟩
theorem readE_calls (l : List UInt8) (A : Option Addr) (m c : Nat) (hm : m = l.length) (hc : m ≤ c) (w : World) (hA : SlAt w A (bys l)) : reCalls 15 l A m c w := by
  by_cases h1 : l.length < 76
  · refine reCalls_bad (k := 3) (by unfold reE; rw [if_pos h1]) (by omega) (re_some (by omega) fun b5 b9 b4 x1 x2 w1 H1 => ?_)
    by_cases g0 : m < 1
    · exact renv_b0 b5 b9 b4 x1 x2 l A m c hm hc g0 hA w1 H1
    by_cases g1 : m = 1
    · exact renv_b1 b5 b9 b4 x1 x2 l A m c hm hc g1 hA w1 H1
    by_cases g2 : m < 34
    · exact renv_b2 b5 b9 b4 x1 x2 l A m c hm hc (by omega) g2 hA w1 H1
    by_cases g3 : m < 74
    · exact renv_b3 b5 b9 b4 x1 x2 l A m c hm hc (by omega) g3 hA w1 H1
    · exact renv_b4 b5 b9 b4 x1 x2 l A m c hm hc (by omega) (by omega) hA w1 H1
  by_cases h2 : l.length < 76 + reN l
  · exact reCalls_bad (k := 3) (by unfold reE; rw [if_neg h1, if_pos h2]) (by omega) (re_some (by omega) fun b5 b9 b4 x1 x2 w1 H1 => renv_b5 b5 b9 b4 x1 x2 l A m c hm hc (by omega) (by omega) hA w1 H1)
  have hcm : (reC l).length = 32 := by unfold reC; simp; omega
  have hpb : (rdP (l.drop 34)).length = 32 := by unfold rdP; simp; omega
  cases ho : reOk l with
  | true =>
    have ho2 := ho
    unfold reOk at ho2
    rw [Bool.and_eq_true, decide_eq_true_iff] at ho2
    exact reCalls_ok (by unfold reE; rw [if_neg h1, if_neg h2, if_pos ho]) (by simp; omega) (re_none hcm hpb fun b5 b9 b4 x1 x2 w1 H1 => renv_ok12 b5 b9 b4 x1 x2 l A m c hm hc (by omega) ho2.1 hA w1 H1)
  | false =>
    refine reCalls_bad (k := 2) (by unfold reE; rw [if_neg h1, if_neg h2, if_neg (by rw [ho]; decide)]) (by omega) (re_some (by omega) fun b5 b9 b4 x1 x2 w1 H1 => renv_form b5 b9 b4 x1 x2 l A m c hm hc (by omega) ?_ hA w1 H1)
    cases hr : reR l (reN l) with
    | false => exact .inl rfl
    | true =>
      refine .inr ?_
      unfold reOk at ho
      rw [hr, Bool.true_and, decide_eq_false_iff_not] at ho
      omega
end Go.Proofs.Ytpjjledbmfmbiaa
