/- What the functions of package head do: the parts of an envelope off bytes. Conditions: lengths that memory bears. -/
import Derived.Test.YtpjjledbmfmbiaaC12h
import Derived.Test.YtpjjledbmfmbiaaS12d
import Derived.Test.YtpjjledbmfmbiaaV12b
namespace Go.Proofs.Ytpjjledbmfmbiaa
open Go.RowKit Go.PBYtpjjledbmfmbiaa
set_option linter.unusedVariables false
set_option linter.unusedSimpArgs false
set_option maxRecDepth 10000

section
variable {w0 : World} (b : Nat) (l : List UInt8) (A : Option Addr) (m c : Nat)
theorem take_s (n : Nat) (hm : m = l.length) (hc : m ≤ c) (hn : n ≤ m) (hA : SlAt w0 A (bys l)) : ∃ A' c', SlAt w0 A' (bys (l.drop n)) ∧ m - n ≤ c' ∧ ∀ L w, St [] w0 (.blk b 48 [.slice A m c] :: L) w →
    Calls Try.prog 32 #[vP b 0, vN n] w fun e w' => e = .returned (.slice A n c) ∧ St [] w0 (.blk b 48 [.slice A' (m - n) c'] :: L) w' :=
  ⟨_, _, adv_at (n := n) hA hm hc, by omega, fun L w H => take_ok b l A m c n hm hc hn w H⟩
theorem number_s (n : Nat) (hm : m = l.length) (hc : m ≤ c) (hn : n ≤ m) (h7 : n ≤ 7) (hA : SlAt w0 A (bys l)) : ∃ A' c', SlAt w0 A' (bys (l.drop n)) ∧ m - n ≤ c' ∧ ∀ L w, St [] w0 (.blk b 48 [.slice A m c] :: L) w →
    Calls Try.prog 30 #[vP b 0, vN n] w fun e w' => e = .returned (vN (ofHigh (l.take n))) ∧ St [] w0 (.blk b 48 [.slice A' (m - n) c'] :: L) w' :=
  ⟨_, _, adv_at (n := n) hA hm hc, by omega, fun L w H => number_ok b l A m c n _ hm hc hn h7 hA rfl w H⟩
theorem key_s (hm : m = l.length) (hc : m ≤ c) (hn : 32 ≤ m) (hA : SlAt w0 A (bys l)) : ∃ A' c', SlAt w0 A' (bys (l.drop 32)) ∧ m - 32 ≤ c' ∧ ∀ L w, St [] w0 (.blk b 48 [.slice A m c] :: L) w →
    Calls Try.prog 31 #[vP b 0] w fun e w' => e = .returned (.agg (bys (l.take 32)).toArray) ∧ St [] w0 (.blk b 48 [.slice A' (m - 32) c'] :: L) w' :=
  ⟨_, _, adv_at (n := 32) hA hm hc, by omega, fun L w H => key_ok b l A m c hm hc hn hA w H⟩
theorem head_s (hm : m = l.length) (hc : m ≤ c) (hn : 40 ≤ m) (hA : SlAt w0 A (bys l)) : ∃ A' c', SlAt w0 A' (bys (l.drop 40)) ∧ m - 40 ≤ c' ∧ ∀ L w, St [] w0 (.blk b 48 [.slice A m c] :: L) w →
    Calls Try.prog 24 #[vP b 0] w fun e w' => e = .returned (.agg (headC (rdP l) (rdM l) (rdN l)).toArray) ∧ St [] w0 (.blk b 48 [.slice A' (m - 40) c'] :: L) w' := by
  have A1 := adv_at (n := 32) hA hm hc
  have A2 := adv_at (m := m - 32) (c := c - 32) (n := 4) A1 (by simp; omega) (by omega)
  have A3 := adv_at (m := m - 32 - 4) (c := c - 32 - 4) (n := 4) A2 (by simp; omega) (by omega)
  rw [List.drop_drop, List.drop_drop] at A3
  refine ⟨adv (adv (adv A 32 c 1) 4 (c - 32) 1) 4 (c - 32 - 4) 1, c - 32 - 4 - 4, A3, by omega, fun L w H => ?_⟩
  have := head_ok b l _ A m c _ _ hm hc hn hA rfl rfl rfl w H
  rw [show m - 32 - 4 - 4 = m - 40 by omega] at this
  exact this
end
/-- what the closure of ReadEnvelope leaves, if it comes to its end -/
abbrev reL (b5 b9 b4 : Nat) (x2 : Res) (f t : Int) (cm pub : List UInt8) (p q : Int) (n : Nat) (body : List UInt8) (x : Value × Option Addr × Nat) : List Res :=
  [.row 5 1 (.slice x.2.1 n x.2.2) n (bys body), .blk b5 46 [vP b9 0], .blk b9 48 [x.1], .blk b4 35 (envC f t cm pub p q (.slice x.2.1 n x.2.2)), x2]
/-- .. if it is given up -/
abbrev rxL (b5 b9 b4 : Nat) (x2 : Res) (x : Value × List Value) : List Res := [.blk b5 46 [vP b9 0], .blk b9 48 [x.1], .blk b4 35 x.2, x2]
set_option maxHeartbeats 1000000 in
theorem renv_b0 {w0 : World} (b5 b9 b4 : Nat) (x1 x2 : Res) (l : List UInt8) (A : Option Addr) (m c : Nat) (hm : m = l.length) (hc : m ≤ c) (hn : m < 1) (hA : SlAt w0 A (bys l)) (w : World) (H : St [] w0 [.blk b5 46 [vP b9 0], .blk b9 48 [.slice A m c], .blk b4 35 zEnvC, x1, x2] w) :
    Calls Try.prog 29 #[vP b5 0, vP b4 0] w fun e w' => e = gaveUp (some 3) ∧ ∃ x, St [] w0 (x1 :: rxL b5 b9 b4 x2 x) w' := by
  have hz32 : (List.replicate 32 (0 : UInt8)).length = 32 := by simp
  have ez : zEnvC = envC 0 0 (List.replicate 32 0) (List.replicate 32 0) 0 0 (.slice none 0 0) := rfl
  rw [ez] at H
  have elen := fun (f t : Int) (p q : Int) (s : Value) => envC_len (f := f) (t := t) (p := p) (q := q) (sl := s) hz32 hz32
  refine enter (n := 25) (R := fun e M => e = .panicked (chOf 3) ∧ ∀ w', St [] w0 M w' → ∃ x, St [] w0 (x1 :: rxL b5 b9 b4 x2 x) w') [vP b5 0, vP b4 0] Try.func29 rfl rfl rfl H ?_ (fun e w' L' h H => ⟨h.1, h.2 w' H⟩)
  refine VC_seq ?_
  refine VC_region ?_
  refine vl_v (q_load 0 Try.underlying46 rfl rfl rfl rfl) rfl ?_
  refine l_callX Try.func30 rfl rfl rfl (fun w1 H1 => (number_bad b9 A m c 1 (by omega) w1 (H1.perm (List.Perm.swap _ _ _))).mono fun e w' h => ⟨h.1, h.2.perm (List.Perm.swap _ _ _)⟩) ?_
  refine (th_p ?_)
  exact ⟨rfl, fun w' H => ⟨(_, _), H.pick (ks := [3, 0, 1, 2, 4]) (by decide) rfl⟩⟩
set_option maxHeartbeats 1000000 in
theorem renv_b1 {w0 : World} (b5 b9 b4 : Nat) (x1 x2 : Res) (l : List UInt8) (A : Option Addr) (m c : Nat) (hm : m = l.length) (hc : m ≤ c) (hn : m = 1) (hA : SlAt w0 A (bys l)) (w : World) (H : St [] w0 [.blk b5 46 [vP b9 0], .blk b9 48 [.slice A m c], .blk b4 35 zEnvC, x1, x2] w) :
    Calls Try.prog 29 #[vP b5 0, vP b4 0] w fun e w' => e = gaveUp (some 3) ∧ ∃ x, St [] w0 (x1 :: rxL b5 b9 b4 x2 x) w' := by
  have hz32 : (List.replicate 32 (0 : UInt8)).length = 32 := by simp
  have ez : zEnvC = envC 0 0 (List.replicate 32 0) (List.replicate 32 0) 0 0 (.slice none 0 0) := rfl
  rw [ez] at H
  have elen := fun (f t : Int) (p q : Int) (s : Value) => envC_len (f := f) (t := t) (p := p) (q := q) (sl := s) hz32 hz32
  obtain ⟨A1, c1, hA1, hc1, s0⟩ := number_s (w0 := w0) b9 l A m c 1 hm hc (by omega) (by omega) hA
  have ef : ofHigh (l.take 1) = reF l := rfl
  rw [ef] at s0
  refine enter (n := 25) (R := fun e M => e = .panicked (chOf 3) ∧ ∀ w', St [] w0 M w' → ∃ x, St [] w0 (x1 :: rxL b5 b9 b4 x2 x) w') [vP b5 0, vP b4 0] Try.func29 rfl rfl rfl H ?_ (fun e w' L' h H => ⟨h.1, h.2 w' H⟩)
  refine VC_seq ?_
  refine VC_region ?_
  refine vl_v (q_load 0 Try.underlying46 rfl rfl rfl rfl) rfl ?_
  refine l_callE Try.func30 rfl rfl rfl (fun w1 H1 => (s0 _ w1 (H1.perm (List.Perm.swap _ _ _))).mono fun e w' h => ⟨h.1, h.2.perm (List.Perm.swap _ _ _)⟩) rfl ?_
  refine vl_v (q_fldA fo35_0 (by decide) rfl rfl) rfl ?_
  first | (refine l_stI 2 rfl rfl rfl sz3 (by first | assumption | omega | (simp only [bys_length]; omega) | (simp only [envC_len, *] <;> omega)) ?_) | (refine l_store1 2 rfl rfl rfl sz3 rfl (by first | decide | (simp; done) | first | assumption | omega | (simp only [bys_length]; omega) | (simp only [envC_len, *] <;> omega)) ?_)
  simp only [List.set_cons_zero, List.set_cons_succ]
  refine vl_nil ?_
  refine (th_n ?_)
  refine VC_seq ?_
  rw [envC_set0]
  refine VC_region ?_
  refine vl_v (q_load 0 Try.underlying46 rfl rfl rfl rfl) rfl ?_
  refine l_callX Try.func30 rfl rfl rfl (fun w1 H1 => (number_bad b9 A1 (m - 1) c1 1 (by omega) w1 (H1.perm (List.Perm.swap _ _ _))).mono fun e w' h => ⟨h.1, h.2.perm (List.Perm.swap _ _ _)⟩) ?_
  refine (th_p ?_)
  exact ⟨rfl, fun w' H => ⟨(_, _), H.pick (ks := [3, 0, 1, 2, 4]) (by decide) rfl⟩⟩
set_option maxHeartbeats 1000000 in
theorem renv_b2 {w0 : World} (b5 b9 b4 : Nat) (x1 x2 : Res) (l : List UInt8) (A : Option Addr) (m c : Nat) (hm : m = l.length) (hc : m ≤ c) (h2 : 2 ≤ m) (hn : m < 34) (hA : SlAt w0 A (bys l)) (w : World) (H : St [] w0 [.blk b5 46 [vP b9 0], .blk b9 48 [.slice A m c], .blk b4 35 zEnvC, x1, x2] w) :
    Calls Try.prog 29 #[vP b5 0, vP b4 0] w fun e w' => e = gaveUp (some 3) ∧ ∃ x, St [] w0 (x1 :: rxL b5 b9 b4 x2 x) w' := by
  have hz32 : (List.replicate 32 (0 : UInt8)).length = 32 := by simp
  have ez : zEnvC = envC 0 0 (List.replicate 32 0) (List.replicate 32 0) 0 0 (.slice none 0 0) := rfl
  rw [ez] at H
  have elen := fun (f t : Int) (p q : Int) (s : Value) => envC_len (f := f) (t := t) (p := p) (q := q) (sl := s) hz32 hz32
  obtain ⟨A1, c1, hA1, hc1, s0⟩ := number_s (w0 := w0) b9 l A m c 1 hm hc (by omega) (by omega) hA
  have ef : ofHigh (l.take 1) = reF l := rfl
  rw [ef] at s0
  obtain ⟨A2, c2, hA2, hc2, s1⟩ := number_s (w0 := w0) b9 (l.drop 1) A1 (m - 1) c1 1 (by simp; omega) hc1 (by omega) (by omega) hA1
  have et : ofHigh ((l.drop 1).take 1) = reT l := rfl
  rw [et] at s1
  rw [List.drop_drop] at hA2
  have hA2 : SlAt w0 A2 (bys (l.drop 2)) := hA2
  refine enter (n := 25) (R := fun e M => e = .panicked (chOf 3) ∧ ∀ w', St [] w0 M w' → ∃ x, St [] w0 (x1 :: rxL b5 b9 b4 x2 x) w') [vP b5 0, vP b4 0] Try.func29 rfl rfl rfl H ?_ (fun e w' L' h H => ⟨h.1, h.2 w' H⟩)
  refine VC_seq ?_
  refine VC_region ?_
  refine vl_v (q_load 0 Try.underlying46 rfl rfl rfl rfl) rfl ?_
  refine l_callE Try.func30 rfl rfl rfl (fun w1 H1 => (s0 _ w1 (H1.perm (List.Perm.swap _ _ _))).mono fun e w' h => ⟨h.1, h.2.perm (List.Perm.swap _ _ _)⟩) rfl ?_
  refine vl_v (q_fldA fo35_0 (by decide) rfl rfl) rfl ?_
  first | (refine l_stI 2 rfl rfl rfl sz3 (by first | assumption | omega | (simp only [bys_length]; omega) | (simp only [envC_len, *] <;> omega)) ?_) | (refine l_store1 2 rfl rfl rfl sz3 rfl (by first | decide | (simp; done) | first | assumption | omega | (simp only [bys_length]; omega) | (simp only [envC_len, *] <;> omega)) ?_)
  simp only [List.set_cons_zero, List.set_cons_succ]
  refine vl_nil ?_
  refine (th_n ?_)
  refine VC_seq ?_
  rw [envC_set0]
  refine VC_region ?_
  refine vl_v (q_load 0 Try.underlying46 rfl rfl rfl rfl) rfl ?_
  refine l_callE Try.func30 rfl rfl rfl (fun w1 H1 => (s1 _ w1 (H1.perm (List.Perm.swap _ _ _))).mono fun e w' h => ⟨h.1, h.2.perm (List.Perm.swap _ _ _)⟩) rfl ?_
  refine vl_v (q_fldA fo35_1 (by decide) rfl rfl) rfl ?_
  first | (refine l_stI 2 rfl rfl rfl sz3 (by first | assumption | omega | (simp only [bys_length]; omega) | (simp only [envC_len, *] <;> omega)) ?_) | (refine l_store1 2 rfl rfl rfl sz3 rfl (by first | decide | (simp; done) | first | assumption | omega | (simp only [bys_length]; omega) | (simp only [envC_len, *] <;> omega)) ?_)
  simp only [List.set_cons_zero, List.set_cons_succ]
  refine vl_nil ?_
  refine (th_n ?_)
  refine VC_seq ?_
  rw [envC_set1]
  refine VC_region ?_
  refine vl_v (q_load 0 Try.underlying46 rfl rfl rfl rfl) rfl ?_
  refine l_callX Try.func31 rfl rfl rfl (fun w1 H1 => (key_bad b9 A2 (m - 1 - 1) c2 (by omega) w1 (H1.perm (List.Perm.swap _ _ _))).mono fun e w' h => ⟨h.1, h.2.perm (List.Perm.swap _ _ _)⟩) ?_
  refine (th_p ?_)
  exact ⟨rfl, fun w' H => ⟨(_, _), H.pick (ks := [3, 0, 1, 2, 4]) (by decide) rfl⟩⟩
set_option maxHeartbeats 1000000 in
theorem renv_b3 {w0 : World} (b5 b9 b4 : Nat) (x1 x2 : Res) (l : List UInt8) (A : Option Addr) (m c : Nat) (hm : m = l.length) (hc : m ≤ c) (h2 : 34 ≤ m) (hn : m < 74) (hA : SlAt w0 A (bys l)) (w : World) (H : St [] w0 [.blk b5 46 [vP b9 0], .blk b9 48 [.slice A m c], .blk b4 35 zEnvC, x1, x2] w) :
    Calls Try.prog 29 #[vP b5 0, vP b4 0] w fun e w' => e = gaveUp (some 3) ∧ ∃ x, St [] w0 (x1 :: rxL b5 b9 b4 x2 x) w' := by
  have hz32 : (List.replicate 32 (0 : UInt8)).length = 32 := by simp
  have ez : zEnvC = envC 0 0 (List.replicate 32 0) (List.replicate 32 0) 0 0 (.slice none 0 0) := rfl
  rw [ez] at H
  have elen := fun (f t : Int) (p q : Int) (s : Value) => envC_len (f := f) (t := t) (p := p) (q := q) (sl := s) hz32 hz32
  obtain ⟨A1, c1, hA1, hc1, s0⟩ := number_s (w0 := w0) b9 l A m c 1 hm hc (by omega) (by omega) hA
  have ef : ofHigh (l.take 1) = reF l := rfl
  rw [ef] at s0
  obtain ⟨A2, c2, hA2, hc2, s1⟩ := number_s (w0 := w0) b9 (l.drop 1) A1 (m - 1) c1 1 (by simp; omega) hc1 (by omega) (by omega) hA1
  have et : ofHigh ((l.drop 1).take 1) = reT l := rfl
  rw [et] at s1
  rw [List.drop_drop] at hA2
  have hA2 : SlAt w0 A2 (bys (l.drop 2)) := hA2
  obtain ⟨A3, c3, hA3, hc3, s2⟩ := key_s (w0 := w0) b9 (l.drop 2) A2 (m - 1 - 1) c2 (by simp; omega) hc2 (by omega) hA2
  have ec : (l.drop 2).take 32 = reC l := rfl
  have lcm : (reC l).length = 32 := by rw [← ec]; simp; omega
  rw [ec] at s2
  rw [List.drop_drop] at hA3
  have hA3 : SlAt w0 A3 (bys (l.drop 34)) := hA3
  have elen2 := fun (f t : Int) (p q : Int) (s : Value) => envC_len (f := f) (t := t) (p := p) (q := q) (sl := s) lcm hz32
  refine enter (n := 25) (R := fun e M => e = .panicked (chOf 3) ∧ ∀ w', St [] w0 M w' → ∃ x, St [] w0 (x1 :: rxL b5 b9 b4 x2 x) w') [vP b5 0, vP b4 0] Try.func29 rfl rfl rfl H ?_ (fun e w' L' h H => ⟨h.1, h.2 w' H⟩)
  refine VC_seq ?_
  refine VC_region ?_
  refine vl_v (q_load 0 Try.underlying46 rfl rfl rfl rfl) rfl ?_
  refine l_callE Try.func30 rfl rfl rfl (fun w1 H1 => (s0 _ w1 (H1.perm (List.Perm.swap _ _ _))).mono fun e w' h => ⟨h.1, h.2.perm (List.Perm.swap _ _ _)⟩) rfl ?_
  refine vl_v (q_fldA fo35_0 (by decide) rfl rfl) rfl ?_
  first | (refine l_stI 2 rfl rfl rfl sz3 (by first | assumption | omega | (simp only [bys_length]; omega) | (simp only [envC_len, *] <;> omega)) ?_) | (refine l_store1 2 rfl rfl rfl sz3 rfl (by first | decide | (simp; done) | first | assumption | omega | (simp only [bys_length]; omega) | (simp only [envC_len, *] <;> omega)) ?_)
  simp only [List.set_cons_zero, List.set_cons_succ]
  refine vl_nil ?_
  refine (th_n ?_)
  refine VC_seq ?_
  rw [envC_set0]
  refine VC_region ?_
  refine vl_v (q_load 0 Try.underlying46 rfl rfl rfl rfl) rfl ?_
  refine l_callE Try.func30 rfl rfl rfl (fun w1 H1 => (s1 _ w1 (H1.perm (List.Perm.swap _ _ _))).mono fun e w' h => ⟨h.1, h.2.perm (List.Perm.swap _ _ _)⟩) rfl ?_
  refine vl_v (q_fldA fo35_1 (by decide) rfl rfl) rfl ?_
  first | (refine l_stI 2 rfl rfl rfl sz3 (by first | assumption | omega | (simp only [bys_length]; omega) | (simp only [envC_len, *] <;> omega)) ?_) | (refine l_store1 2 rfl rfl rfl sz3 rfl (by first | decide | (simp; done) | first | assumption | omega | (simp only [bys_length]; omega) | (simp only [envC_len, *] <;> omega)) ?_)
  simp only [List.set_cons_zero, List.set_cons_succ]
  refine vl_nil ?_
  refine (th_n ?_)
  refine VC_seq ?_
  rw [envC_set1]
  refine VC_region ?_
  refine vl_v (q_load 0 Try.underlying46 rfl rfl rfl rfl) rfl ?_
  refine l_callE Try.func31 rfl rfl rfl (fun w1 H1 => (s2 _ w1 (H1.perm (List.Perm.swap _ _ _))).mono fun e w' h => ⟨h.1, h.2.perm (List.Perm.swap _ _ _)⟩) rfl ?_
  refine vl_v (q_fldA fo35_2 (by decide) rfl rfl) rfl ?_
  refine l_storeG 2 rfl rfl rfl sz23 (by first | assumption | omega | (simp only [bys_length]; omega) | (simp only [envC_len, *] <;> omega)) (by first | (with_reducible first | exact bys_one _ | exact u32s_one _ | exact u64s_one _ | exact i64s_one _ | exact n64s_one _ | assumption) | exact bys_one _ | exact u32s_one _ | exact u64s_one _ | exact i64s_one _ | exact one_all rfl | (refine app_one ?_ ?_ <;> first | exact bys_one _ | exact one_all rfl | (simp; done))) (by first | assumption | omega | (simp only [bys_length]; omega) | (simp only [envC_len, *] <;> omega)) ?_
  simp only [List.set_cons_zero, List.set_cons_succ]
  refine vl_nil ?_
  refine (th_n ?_)
  refine VC_seq ?_
  rw [envC_spl2 hz32 lcm]
  refine VC_region ?_
  refine vl_v (q_load 0 Try.underlying46 rfl rfl rfl rfl) rfl ?_
  refine l_callXx Try.func24 rfl rfl rfl (fun w1 H1 => (head_bad b9 (l.drop 34) A3 (m - 1 - 1 - 32) c3 (by simp; omega) hc3 (by omega) hA3 w1 (H1.perm (List.Perm.swap _ _ _))).mono fun e w' ⟨g1, v, g2⟩ => ⟨g1, v, g2.perm (List.Perm.swap _ _ _)⟩) ?_
  intro ix
  refine (th_p ?_)
  exact ⟨rfl, fun w' H => ⟨(_, _), H.pick (ks := [3, 0, 1, 2, 4]) (by decide) rfl⟩⟩
set_option maxHeartbeats 1000000 in
theorem renv_b4 {w0 : World} (b5 b9 b4 : Nat) (x1 x2 : Res) (l : List UInt8) (A : Option Addr) (m c : Nat) (hm : m = l.length) (hc : m ≤ c) (h2 : 74 ≤ m) (hn : m < 76) (hA : SlAt w0 A (bys l)) (w : World) (H : St [] w0 [.blk b5 46 [vP b9 0], .blk b9 48 [.slice A m c], .blk b4 35 zEnvC, x1, x2] w) :
    Calls Try.prog 29 #[vP b5 0, vP b4 0] w fun e w' => e = gaveUp (some 3) ∧ ∃ x, St [] w0 (x1 :: rxL b5 b9 b4 x2 x) w' := by
  have hz32 : (List.replicate 32 (0 : UInt8)).length = 32 := by simp
  have ez : zEnvC = envC 0 0 (List.replicate 32 0) (List.replicate 32 0) 0 0 (.slice none 0 0) := rfl
  rw [ez] at H
  have elen := fun (f t : Int) (p q : Int) (s : Value) => envC_len (f := f) (t := t) (p := p) (q := q) (sl := s) hz32 hz32
  obtain ⟨A1, c1, hA1, hc1, s0⟩ := number_s (w0 := w0) b9 l A m c 1 hm hc (by omega) (by omega) hA
  have ef : ofHigh (l.take 1) = reF l := rfl
  rw [ef] at s0
  obtain ⟨A2, c2, hA2, hc2, s1⟩ := number_s (w0 := w0) b9 (l.drop 1) A1 (m - 1) c1 1 (by simp; omega) hc1 (by omega) (by omega) hA1
  have et : ofHigh ((l.drop 1).take 1) = reT l := rfl
  rw [et] at s1
  rw [List.drop_drop] at hA2
  have hA2 : SlAt w0 A2 (bys (l.drop 2)) := hA2
  obtain ⟨A3, c3, hA3, hc3, s2⟩ := key_s (w0 := w0) b9 (l.drop 2) A2 (m - 1 - 1) c2 (by simp; omega) hc2 (by omega) hA2
  have ec : (l.drop 2).take 32 = reC l := rfl
  have lcm : (reC l).length = 32 := by rw [← ec]; simp; omega
  rw [ec] at s2
  rw [List.drop_drop] at hA3
  have hA3 : SlAt w0 A3 (bys (l.drop 34)) := hA3
  have elen2 := fun (f t : Int) (p q : Int) (s : Value) => envC_len (f := f) (t := t) (p := p) (q := q) (sl := s) lcm hz32
  obtain ⟨A4, c4, hA4, hc4, s3⟩ := head_s (w0 := w0) b9 (l.drop 34) A3 (m - 1 - 1 - 32) c3 (by simp; omega) hc3 (by omega) hA3
  have lpub : (rdP (l.drop 34)).length = 32 := by rw [rdP]; simp; omega
  have lh := headC_length lpub (rdM (l.drop 34)) (rdN (l.drop 34))
  have oh : ∀ u ∈ headC (rdP (l.drop 34)) (rdM (l.drop 34)) (rdN (l.drop 34)), u.oneCell' = true := app_one (bys_one _) (one_all rfl)
  rw [List.drop_drop] at hA4
  have hA4 : SlAt w0 A4 (bys (l.drop 74)) := hA4
  have elen3 := fun (f t : Int) (p q : Int) (s : Value) => envC_len (f := f) (t := t) (p := p) (q := q) (sl := s) lcm lpub
  refine enter (n := 25) (R := fun e M => e = .panicked (chOf 3) ∧ ∀ w', St [] w0 M w' → ∃ x, St [] w0 (x1 :: rxL b5 b9 b4 x2 x) w') [vP b5 0, vP b4 0] Try.func29 rfl rfl rfl H ?_ (fun e w' L' h H => ⟨h.1, h.2 w' H⟩)
  refine VC_seq ?_
  refine VC_region ?_
  refine vl_v (q_load 0 Try.underlying46 rfl rfl rfl rfl) rfl ?_
  refine l_callE Try.func30 rfl rfl rfl (fun w1 H1 => (s0 _ w1 (H1.perm (List.Perm.swap _ _ _))).mono fun e w' h => ⟨h.1, h.2.perm (List.Perm.swap _ _ _)⟩) rfl ?_
  refine vl_v (q_fldA fo35_0 (by decide) rfl rfl) rfl ?_
  first | (refine l_stI 2 rfl rfl rfl sz3 (by first | assumption | omega | (simp only [bys_length]; omega) | (simp only [envC_len, *] <;> omega)) ?_) | (refine l_store1 2 rfl rfl rfl sz3 rfl (by first | decide | (simp; done) | first | assumption | omega | (simp only [bys_length]; omega) | (simp only [envC_len, *] <;> omega)) ?_)
  simp only [List.set_cons_zero, List.set_cons_succ]
  refine vl_nil ?_
  refine (th_n ?_)
  refine VC_seq ?_
  rw [envC_set0]
  refine VC_region ?_
  refine vl_v (q_load 0 Try.underlying46 rfl rfl rfl rfl) rfl ?_
  refine l_callE Try.func30 rfl rfl rfl (fun w1 H1 => (s1 _ w1 (H1.perm (List.Perm.swap _ _ _))).mono fun e w' h => ⟨h.1, h.2.perm (List.Perm.swap _ _ _)⟩) rfl ?_
  refine vl_v (q_fldA fo35_1 (by decide) rfl rfl) rfl ?_
  first | (refine l_stI 2 rfl rfl rfl sz3 (by first | assumption | omega | (simp only [bys_length]; omega) | (simp only [envC_len, *] <;> omega)) ?_) | (refine l_store1 2 rfl rfl rfl sz3 rfl (by first | decide | (simp; done) | first | assumption | omega | (simp only [bys_length]; omega) | (simp only [envC_len, *] <;> omega)) ?_)
  simp only [List.set_cons_zero, List.set_cons_succ]
  refine vl_nil ?_
  refine (th_n ?_)
  refine VC_seq ?_
  rw [envC_set1]
  refine VC_region ?_
  refine vl_v (q_load 0 Try.underlying46 rfl rfl rfl rfl) rfl ?_
  refine l_callE Try.func31 rfl rfl rfl (fun w1 H1 => (s2 _ w1 (H1.perm (List.Perm.swap _ _ _))).mono fun e w' h => ⟨h.1, h.2.perm (List.Perm.swap _ _ _)⟩) rfl ?_
  refine vl_v (q_fldA fo35_2 (by decide) rfl rfl) rfl ?_
  refine l_storeG 2 rfl rfl rfl sz23 (by first | assumption | omega | (simp only [bys_length]; omega) | (simp only [envC_len, *] <;> omega)) (by first | (with_reducible first | exact bys_one _ | exact u32s_one _ | exact u64s_one _ | exact i64s_one _ | exact n64s_one _ | assumption) | exact bys_one _ | exact u32s_one _ | exact u64s_one _ | exact i64s_one _ | exact one_all rfl | (refine app_one ?_ ?_ <;> first | exact bys_one _ | exact one_all rfl | (simp; done))) (by first | assumption | omega | (simp only [bys_length]; omega) | (simp only [envC_len, *] <;> omega)) ?_
  simp only [List.set_cons_zero, List.set_cons_succ]
  refine vl_nil ?_
  refine (th_n ?_)
  refine VC_seq ?_
  rw [envC_spl2 hz32 lcm]
  refine VC_region ?_
  refine vl_v (q_load 0 Try.underlying46 rfl rfl rfl rfl) rfl ?_
  refine l_callE Try.func24 rfl rfl rfl (fun w1 H1 => (s3 _ w1 (H1.perm (List.Perm.swap _ _ _))).mono fun e w' h => ⟨h.1, h.2.perm (List.Perm.swap _ _ _)⟩) rfl ?_
  refine vl_v (q_fldA fo35_3 (by decide) rfl rfl) rfl ?_
  refine l_storeG 2 rfl rfl rfl sz25 (by first | assumption | omega | (simp only [bys_length]; omega) | (simp only [envC_len, *] <;> omega)) (by first | (with_reducible first | exact bys_one _ | exact u32s_one _ | exact u64s_one _ | exact i64s_one _ | exact n64s_one _ | assumption) | exact bys_one _ | exact u32s_one _ | exact u64s_one _ | exact i64s_one _ | exact one_all rfl | (refine app_one ?_ ?_ <;> first | exact bys_one _ | exact one_all rfl | (simp; done))) (by first | assumption | omega | (simp only [bys_length]; omega) | (simp only [envC_len, *] <;> omega)) ?_
  simp only [List.set_cons_zero, List.set_cons_succ]
  refine vl_nil ?_
  refine (th_n ?_)
  refine VC_seq ?_
  rw [envC_spl34 lcm hz32 lpub]
  refine VC_drawQ 5 5 [[], [], [], [2], [1, 3], [0, 4], [0, 1, 2, 3, 4, 5], [6, 5, 0, 1, 2, 3, 4]] [[], [], [], [2], [1, 2, 3], [0, 1, 2, 3, 4], [0, 1, 2, 3, 4, 5], [0, 1, 2, 3, 4, 5, 6]] [([], [], [], [0, 2, 3, 4], []), ([], [], [], [0, 2, 3, 4], []), ([], [], [], [0, 1, 2, 3, 4], []), ([2], [1], [], [0, 2, 3, 4], [2]), ([1, 2, 3], [], [3], [0, 2, 3, 4], [1, 2])] [0, 2, 3, 4] [0, 1, 2, 4] rfl rfl (by kernel_rfl) ?_
  refine qp_a (fun xs gs hx => q_litA (cs := bys []) Try.underlying26 in5 (by decide) rfl rfl rfl rfl (by first | (with_reducible first | exact bys_one _ | exact u32s_one _ | exact u64s_one _ | exact i64s_one _ | exact n64s_one _ | assumption) | exact bys_one _ | exact u32s_one _ | exact u64s_one _ | exact i64s_one _ | exact one_all rfl | (refine app_one ?_ ?_ <;> first | exact bys_one _ | exact one_all rfl | (simp; done))) rfl) ?_
  refine qp_v (fun xs gs hx => q_load 0 Try.underlying46 rfl rfl rfl rfl) ?_
  refine qp_v (fun xs gs hx => q_load 0 Try.underlying46 rfl rfl rfl rfl) ?_
  refine qp_callX Try.func30 rfl rfl (args := fun xs gs => [vP b9 0, vN 2]) (fun xs gs hx => rfl) (fun xs gs hx R w1 H1 => (number_bad b9 A4 (m - 1 - 1 - 32 - 40) c4 2 (by omega) w1 H1).mono fun e w' h => ⟨h.1, _, h.2, fun _ => And.intro rfl fun w' H => ⟨(_, _), H.pick (ks := [3, 1, 0, 2, 4]) (by decide) rfl⟩⟩) ?_
  refine qp_dead (fun xs gs hx => hx.2.1 rfl) ?_
  refine qp_end ?_
  intro xs gs hx
  obtain ⟨⟨b14, e14⟩, f17, f18, _⟩ := hx
  exact f17.elim
set_option maxHeartbeats 1000000 in
theorem renv_b5 {w0 : World} (b5 b9 b4 : Nat) (x1 x2 : Res) (l : List UInt8) (A : Option Addr) (m c : Nat) (hm : m = l.length) (hc : m ≤ c) (h2 : 76 ≤ m) (hn : m < 76 + reN l) (hA : SlAt w0 A (bys l)) (w : World) (H : St [] w0 [.blk b5 46 [vP b9 0], .blk b9 48 [.slice A m c], .blk b4 35 zEnvC, x1, x2] w) :
    Calls Try.prog 29 #[vP b5 0, vP b4 0] w fun e w' => e = gaveUp (some 3) ∧ ∃ x, St [] w0 (x1 :: rxL b5 b9 b4 x2 x) w' := by
  have hz32 : (List.replicate 32 (0 : UInt8)).length = 32 := by simp
  have ez : zEnvC = envC 0 0 (List.replicate 32 0) (List.replicate 32 0) 0 0 (.slice none 0 0) := rfl
  rw [ez] at H
  have elen := fun (f t : Int) (p q : Int) (s : Value) => envC_len (f := f) (t := t) (p := p) (q := q) (sl := s) hz32 hz32
  obtain ⟨A1, c1, hA1, hc1, s0⟩ := number_s (w0 := w0) b9 l A m c 1 hm hc (by omega) (by omega) hA
  have ef : ofHigh (l.take 1) = reF l := rfl
  rw [ef] at s0
  obtain ⟨A2, c2, hA2, hc2, s1⟩ := number_s (w0 := w0) b9 (l.drop 1) A1 (m - 1) c1 1 (by simp; omega) hc1 (by omega) (by omega) hA1
  have et : ofHigh ((l.drop 1).take 1) = reT l := rfl
  rw [et] at s1
  rw [List.drop_drop] at hA2
  have hA2 : SlAt w0 A2 (bys (l.drop 2)) := hA2
  obtain ⟨A3, c3, hA3, hc3, s2⟩ := key_s (w0 := w0) b9 (l.drop 2) A2 (m - 1 - 1) c2 (by simp; omega) hc2 (by omega) hA2
  have ec : (l.drop 2).take 32 = reC l := rfl
  have lcm : (reC l).length = 32 := by rw [← ec]; simp; omega
  rw [ec] at s2
  rw [List.drop_drop] at hA3
  have hA3 : SlAt w0 A3 (bys (l.drop 34)) := hA3
  have elen2 := fun (f t : Int) (p q : Int) (s : Value) => envC_len (f := f) (t := t) (p := p) (q := q) (sl := s) lcm hz32
  obtain ⟨A4, c4, hA4, hc4, s3⟩ := head_s (w0 := w0) b9 (l.drop 34) A3 (m - 1 - 1 - 32) c3 (by simp; omega) hc3 (by omega) hA3
  have lpub : (rdP (l.drop 34)).length = 32 := by rw [rdP]; simp; omega
  have lh := headC_length lpub (rdM (l.drop 34)) (rdN (l.drop 34))
  have oh : ∀ u ∈ headC (rdP (l.drop 34)) (rdM (l.drop 34)) (rdN (l.drop 34)), u.oneCell' = true := app_one (bys_one _) (one_all rfl)
  rw [List.drop_drop] at hA4
  have hA4 : SlAt w0 A4 (bys (l.drop 74)) := hA4
  have elen3 := fun (f t : Int) (p q : Int) (s : Value) => envC_len (f := f) (t := t) (p := p) (q := q) (sl := s) lcm lpub
  obtain ⟨A5, c5, hA5, hc5, s4⟩ := number_s (w0 := w0) b9 (l.drop 74) A4 (m - 1 - 1 - 32 - 40) c4 2 (by simp; omega) hc4 (by omega) (by omega) hA4
  have en : ofHigh ((l.drop 74).take 2) = reN l := rfl
  rw [en] at s4
  rw [List.drop_drop] at hA5
  have hA5 : SlAt w0 A5 (bys (l.drop 76)) := hA5
  have nlt := reN_lt l
  refine enter (n := 25) (R := fun e M => e = .panicked (chOf 3) ∧ ∀ w', St [] w0 M w' → ∃ x, St [] w0 (x1 :: rxL b5 b9 b4 x2 x) w') [vP b5 0, vP b4 0] Try.func29 rfl rfl rfl H ?_ (fun e w' L' h H => ⟨h.1, h.2 w' H⟩)
  refine VC_seq ?_
  refine VC_region ?_
  refine vl_v (q_load 0 Try.underlying46 rfl rfl rfl rfl) rfl ?_
  refine l_callE Try.func30 rfl rfl rfl (fun w1 H1 => (s0 _ w1 (H1.perm (List.Perm.swap _ _ _))).mono fun e w' h => ⟨h.1, h.2.perm (List.Perm.swap _ _ _)⟩) rfl ?_
  refine vl_v (q_fldA fo35_0 (by decide) rfl rfl) rfl ?_
  first | (refine l_stI 2 rfl rfl rfl sz3 (by first | assumption | omega | (simp only [bys_length]; omega) | (simp only [envC_len, *] <;> omega)) ?_) | (refine l_store1 2 rfl rfl rfl sz3 rfl (by first | decide | (simp; done) | first | assumption | omega | (simp only [bys_length]; omega) | (simp only [envC_len, *] <;> omega)) ?_)
  simp only [List.set_cons_zero, List.set_cons_succ]
  refine vl_nil ?_
  refine (th_n ?_)
  refine VC_seq ?_
  rw [envC_set0]
  refine VC_region ?_
  refine vl_v (q_load 0 Try.underlying46 rfl rfl rfl rfl) rfl ?_
  refine l_callE Try.func30 rfl rfl rfl (fun w1 H1 => (s1 _ w1 (H1.perm (List.Perm.swap _ _ _))).mono fun e w' h => ⟨h.1, h.2.perm (List.Perm.swap _ _ _)⟩) rfl ?_
  refine vl_v (q_fldA fo35_1 (by decide) rfl rfl) rfl ?_
  first | (refine l_stI 2 rfl rfl rfl sz3 (by first | assumption | omega | (simp only [bys_length]; omega) | (simp only [envC_len, *] <;> omega)) ?_) | (refine l_store1 2 rfl rfl rfl sz3 rfl (by first | decide | (simp; done) | first | assumption | omega | (simp only [bys_length]; omega) | (simp only [envC_len, *] <;> omega)) ?_)
  simp only [List.set_cons_zero, List.set_cons_succ]
  refine vl_nil ?_
  refine (th_n ?_)
  refine VC_seq ?_
  rw [envC_set1]
  refine VC_region ?_
  refine vl_v (q_load 0 Try.underlying46 rfl rfl rfl rfl) rfl ?_
  refine l_callE Try.func31 rfl rfl rfl (fun w1 H1 => (s2 _ w1 (H1.perm (List.Perm.swap _ _ _))).mono fun e w' h => ⟨h.1, h.2.perm (List.Perm.swap _ _ _)⟩) rfl ?_
  refine vl_v (q_fldA fo35_2 (by decide) rfl rfl) rfl ?_
  refine l_storeG 2 rfl rfl rfl sz23 (by first | assumption | omega | (simp only [bys_length]; omega) | (simp only [envC_len, *] <;> omega)) (by first | (with_reducible first | exact bys_one _ | exact u32s_one _ | exact u64s_one _ | exact i64s_one _ | exact n64s_one _ | assumption) | exact bys_one _ | exact u32s_one _ | exact u64s_one _ | exact i64s_one _ | exact one_all rfl | (refine app_one ?_ ?_ <;> first | exact bys_one _ | exact one_all rfl | (simp; done))) (by first | assumption | omega | (simp only [bys_length]; omega) | (simp only [envC_len, *] <;> omega)) ?_
  simp only [List.set_cons_zero, List.set_cons_succ]
  refine vl_nil ?_
  refine (th_n ?_)
  refine VC_seq ?_
  rw [envC_spl2 hz32 lcm]
  refine VC_region ?_
  refine vl_v (q_load 0 Try.underlying46 rfl rfl rfl rfl) rfl ?_
  refine l_callE Try.func24 rfl rfl rfl (fun w1 H1 => (s3 _ w1 (H1.perm (List.Perm.swap _ _ _))).mono fun e w' h => ⟨h.1, h.2.perm (List.Perm.swap _ _ _)⟩) rfl ?_
  refine vl_v (q_fldA fo35_3 (by decide) rfl rfl) rfl ?_
  refine l_storeG 2 rfl rfl rfl sz25 (by first | assumption | omega | (simp only [bys_length]; omega) | (simp only [envC_len, *] <;> omega)) (by first | (with_reducible first | exact bys_one _ | exact u32s_one _ | exact u64s_one _ | exact i64s_one _ | exact n64s_one _ | assumption) | exact bys_one _ | exact u32s_one _ | exact u64s_one _ | exact i64s_one _ | exact one_all rfl | (refine app_one ?_ ?_ <;> first | exact bys_one _ | exact one_all rfl | (simp; done))) (by first | assumption | omega | (simp only [bys_length]; omega) | (simp only [envC_len, *] <;> omega)) ?_
  simp only [List.set_cons_zero, List.set_cons_succ]
  refine vl_nil ?_
  refine (th_n ?_)
  refine VC_seq ?_
  rw [envC_spl34 lcm hz32 lpub]
  refine VC_drawQ 5 5 [[], [], [], [2], [1, 3], [0, 4], [0, 1, 2, 3, 4, 5], [6, 5, 0, 1, 2, 3, 4]] [[], [], [], [2], [1, 2, 3], [0, 1, 2, 3, 4], [0, 1, 2, 3, 4, 5], [0, 1, 2, 3, 4, 5, 6]] [([], [], [], [0, 2, 3, 4], []), ([], [], [], [0, 2, 3, 4], []), ([], [], [], [0, 1, 2, 3, 4], []), ([2], [1], [], [0, 2, 3, 4], [2]), ([1, 2, 3], [], [3], [0, 2, 3, 4], [1, 2])] [0, 2, 3, 4] [0, 1, 2, 4] rfl rfl (by kernel_rfl) ?_
  refine qp_a (fun xs gs hx => q_litA (cs := bys []) Try.underlying26 in5 (by decide) rfl rfl rfl rfl (by first | (with_reducible first | exact bys_one _ | exact u32s_one _ | exact u64s_one _ | exact i64s_one _ | exact n64s_one _ | assumption) | exact bys_one _ | exact u32s_one _ | exact u64s_one _ | exact i64s_one _ | exact one_all rfl | (refine app_one ?_ ?_ <;> first | exact bys_one _ | exact one_all rfl | (simp; done))) rfl) ?_
  refine qp_v (fun xs gs hx => q_load 0 Try.underlying46 rfl rfl rfl rfl) ?_
  refine qp_v (fun xs gs hx => q_load 0 Try.underlying46 rfl rfl rfl rfl) ?_
  refine qp_callE (fun xs gs v _ => v = vN (reN l)) (fun xs gs v _ => [.blk b9 48 [.slice A5 (m - 1 - 1 - 32 - 40 - 2) c5]]) Try.func30 rfl rfl (args := fun xs gs => [vP b9 0, vN 2]) (fun xs gs hx => rfl) (fun xs gs hx R w1 H1 => (s4 _ w1 H1).mono fun e w' h => ⟨_, undef, h.1, (by intro h; cases h), rfl, h.2⟩) ?_
  refine qp_callX Try.func32 rfl rfl (args := fun xs gs => [vP b9 0, vN (reN l)]) (fun xs gs hx => congrArg (fun v => some [vP b9 0, v]) (hx.2.1 rfl)) (fun xs gs hx R w1 H1 => (take_bad b9 A5 (m - 1 - 1 - 32 - 40 - 2) c5 (reN l) (by omega) w1 H1).mono fun e w' h => ⟨h.1, _, h.2, fun _ => And.intro rfl fun w' H => ⟨(_, _), H.pick (ks := [3, 1, 0, 2, 4]) (by decide) rfl⟩⟩) ?_
  refine qp_end ?_
  intro xs gs hx
  obtain ⟨⟨b14, e14⟩, f17, f18, _⟩ := hx
  exact f18.elim
set_option maxHeartbeats 1000000 in
theorem renv_form {w0 : World} (b5 b9 b4 : Nat) (x1 x2 : Res) (l : List UInt8) (A : Option Addr) (m c : Nat) (hm : m = l.length) (hc : m ≤ c) (h2 : 76 + reN l ≤ m) (hr : reR l (reN l) = false ∨ 76 + reN l < m) (hA : SlAt w0 A (bys l)) (w : World) (H : St [] w0 [.blk b5 46 [vP b9 0], .blk b9 48 [.slice A m c], .blk b4 35 zEnvC, x1, x2] w) :
    Calls Try.prog 29 #[vP b5 0, vP b4 0] w fun e w' => e = gaveUp (some 2) ∧ ∃ x, St [] w0 (x1 :: rxL b5 b9 b4 x2 x) w' := by
  have hz32 : (List.replicate 32 (0 : UInt8)).length = 32 := by simp
  have ez : zEnvC = envC 0 0 (List.replicate 32 0) (List.replicate 32 0) 0 0 (.slice none 0 0) := rfl
  rw [ez] at H
  have elen := fun (f t : Int) (p q : Int) (s : Value) => envC_len (f := f) (t := t) (p := p) (q := q) (sl := s) hz32 hz32
  obtain ⟨A1, c1, hA1, hc1, s0⟩ := number_s (w0 := w0) b9 l A m c 1 hm hc (by omega) (by omega) hA
  have ef : ofHigh (l.take 1) = reF l := rfl
  rw [ef] at s0
  obtain ⟨A2, c2, hA2, hc2, s1⟩ := number_s (w0 := w0) b9 (l.drop 1) A1 (m - 1) c1 1 (by simp; omega) hc1 (by omega) (by omega) hA1
  have et : ofHigh ((l.drop 1).take 1) = reT l := rfl
  rw [et] at s1
  rw [List.drop_drop] at hA2
  have hA2 : SlAt w0 A2 (bys (l.drop 2)) := hA2
  obtain ⟨A3, c3, hA3, hc3, s2⟩ := key_s (w0 := w0) b9 (l.drop 2) A2 (m - 1 - 1) c2 (by simp; omega) hc2 (by omega) hA2
  have ec : (l.drop 2).take 32 = reC l := rfl
  have lcm : (reC l).length = 32 := by rw [← ec]; simp; omega
  rw [ec] at s2
  rw [List.drop_drop] at hA3
  have hA3 : SlAt w0 A3 (bys (l.drop 34)) := hA3
  have elen2 := fun (f t : Int) (p q : Int) (s : Value) => envC_len (f := f) (t := t) (p := p) (q := q) (sl := s) lcm hz32
  obtain ⟨A4, c4, hA4, hc4, s3⟩ := head_s (w0 := w0) b9 (l.drop 34) A3 (m - 1 - 1 - 32) c3 (by simp; omega) hc3 (by omega) hA3
  have lpub : (rdP (l.drop 34)).length = 32 := by rw [rdP]; simp; omega
  have lh := headC_length lpub (rdM (l.drop 34)) (rdN (l.drop 34))
  have oh : ∀ u ∈ headC (rdP (l.drop 34)) (rdM (l.drop 34)) (rdN (l.drop 34)), u.oneCell' = true := app_one (bys_one _) (one_all rfl)
  rw [List.drop_drop] at hA4
  have hA4 : SlAt w0 A4 (bys (l.drop 74)) := hA4
  have elen3 := fun (f t : Int) (p q : Int) (s : Value) => envC_len (f := f) (t := t) (p := p) (q := q) (sl := s) lcm lpub
  obtain ⟨A5, c5, hA5, hc5, s4⟩ := number_s (w0 := w0) b9 (l.drop 74) A4 (m - 1 - 1 - 32 - 40) c4 2 (by simp; omega) hc4 (by omega) (by omega) hA4
  have en : ofHigh ((l.drop 74).take 2) = reN l := rfl
  rw [en] at s4
  rw [List.drop_drop] at hA5
  have hA5 : SlAt w0 A5 (bys (l.drop 76)) := hA5
  obtain ⟨A6, c6, hA6, hc6, s5⟩ := take_s (w0 := w0) b9 (l.drop 76) A5 (m - 1 - 1 - 32 - 40 - 2) c5 (reN l) (by simp; omega) hc5 (by omega) hA5
  have hbod := at_take (n := reN l) hA5
  have lbod : ((l.drop 76).take (reN l)).length = reN l := by simp; omega
  have nlt := reN_lt l
  obtain ⟨r, hr0⟩ : ∃ r, reR l (reN l) = r := ⟨_, rfl⟩
  have hright := fun (B : Option Addr) (cB : Nat) => hrightE_calls (reF l) (reT l) (reC l) (rdP (l.drop 34)) (rdM (l.drop 34)) (rdN (l.drop 34)) (reN l) cB B lcm lpub
  rw [show rightEB (reF l) (reT l) (rdM (l.drop 34)) (rdN (l.drop 34)) (reN l) = r from hr0] at hright
  have hlt : r = true → 0 < m - 1 - 1 - 32 - 40 - 2 - reN l := by
    rintro rfl
    rcases hr with h | h
    · exact absurd (hr0.symm.trans h) (by decide)
    · omega
  have hmust : ∀ (A : Option Addr) (c : Nat) (L : List Res) (w : World), St [] w0 (.blk b9 48 [.slice A (m - 1 - 1 - 32 - 40 - 2 - reN l) c] :: L) w → Calls Try.prog 25 #[vP b9 0, .bool r] w fun e w' => e = .panicked (chOf 2) ∧ St [] w0 (.blk b9 48 [.slice A (m - 1 - 1 - 32 - 40 - 2 - reN l) c] :: L) w' := by
    intro A c L w H
    cases r with
    | false => exact must_bad1 b9 A _ c w H
    | true => exact must_bad2 b9 A _ c (hlt rfl) w H
  refine enter (n := 25) (R := fun e M => e = .panicked (chOf 2) ∧ ∀ w', St [] w0 M w' → ∃ x, St [] w0 (x1 :: rxL b5 b9 b4 x2 x) w') [vP b5 0, vP b4 0] Try.func29 rfl rfl rfl H ?_ (fun e w' L' h H => ⟨h.1, h.2 w' H⟩)
  refine VC_seq ?_
  refine VC_region ?_
  refine vl_v (q_load 0 Try.underlying46 rfl rfl rfl rfl) rfl ?_
  refine l_callE Try.func30 rfl rfl rfl (fun w1 H1 => (s0 _ w1 (H1.perm (List.Perm.swap _ _ _))).mono fun e w' h => ⟨h.1, h.2.perm (List.Perm.swap _ _ _)⟩) rfl ?_
  refine vl_v (q_fldA fo35_0 (by decide) rfl rfl) rfl ?_
  first | (refine l_stI 2 rfl rfl rfl sz3 (by first | assumption | omega | (simp only [bys_length]; omega) | (simp only [envC_len, *] <;> omega)) ?_) | (refine l_store1 2 rfl rfl rfl sz3 rfl (by first | decide | (simp; done) | first | assumption | omega | (simp only [bys_length]; omega) | (simp only [envC_len, *] <;> omega)) ?_)
  simp only [List.set_cons_zero, List.set_cons_succ]
  refine vl_nil ?_
  refine (th_n ?_)
  refine VC_seq ?_
  rw [envC_set0]
  refine VC_region ?_
  refine vl_v (q_load 0 Try.underlying46 rfl rfl rfl rfl) rfl ?_
  refine l_callE Try.func30 rfl rfl rfl (fun w1 H1 => (s1 _ w1 (H1.perm (List.Perm.swap _ _ _))).mono fun e w' h => ⟨h.1, h.2.perm (List.Perm.swap _ _ _)⟩) rfl ?_
  refine vl_v (q_fldA fo35_1 (by decide) rfl rfl) rfl ?_
  first | (refine l_stI 2 rfl rfl rfl sz3 (by first | assumption | omega | (simp only [bys_length]; omega) | (simp only [envC_len, *] <;> omega)) ?_) | (refine l_store1 2 rfl rfl rfl sz3 rfl (by first | decide | (simp; done) | first | assumption | omega | (simp only [bys_length]; omega) | (simp only [envC_len, *] <;> omega)) ?_)
  simp only [List.set_cons_zero, List.set_cons_succ]
  refine vl_nil ?_
  refine (th_n ?_)
  refine VC_seq ?_
  rw [envC_set1]
  refine VC_region ?_
  refine vl_v (q_load 0 Try.underlying46 rfl rfl rfl rfl) rfl ?_
  refine l_callE Try.func31 rfl rfl rfl (fun w1 H1 => (s2 _ w1 (H1.perm (List.Perm.swap _ _ _))).mono fun e w' h => ⟨h.1, h.2.perm (List.Perm.swap _ _ _)⟩) rfl ?_
  refine vl_v (q_fldA fo35_2 (by decide) rfl rfl) rfl ?_
  refine l_storeG 2 rfl rfl rfl sz23 (by first | assumption | omega | (simp only [bys_length]; omega) | (simp only [envC_len, *] <;> omega)) (by first | (with_reducible first | exact bys_one _ | exact u32s_one _ | exact u64s_one _ | exact i64s_one _ | exact n64s_one _ | assumption) | exact bys_one _ | exact u32s_one _ | exact u64s_one _ | exact i64s_one _ | exact one_all rfl | (refine app_one ?_ ?_ <;> first | exact bys_one _ | exact one_all rfl | (simp; done))) (by first | assumption | omega | (simp only [bys_length]; omega) | (simp only [envC_len, *] <;> omega)) ?_
  simp only [List.set_cons_zero, List.set_cons_succ]
  refine vl_nil ?_
  refine (th_n ?_)
  refine VC_seq ?_
  rw [envC_spl2 hz32 lcm]
  refine VC_region ?_
  refine vl_v (q_load 0 Try.underlying46 rfl rfl rfl rfl) rfl ?_
  refine l_callE Try.func24 rfl rfl rfl (fun w1 H1 => (s3 _ w1 (H1.perm (List.Perm.swap _ _ _))).mono fun e w' h => ⟨h.1, h.2.perm (List.Perm.swap _ _ _)⟩) rfl ?_
  refine vl_v (q_fldA fo35_3 (by decide) rfl rfl) rfl ?_
  refine l_storeG 2 rfl rfl rfl sz25 (by first | assumption | omega | (simp only [bys_length]; omega) | (simp only [envC_len, *] <;> omega)) (by first | (with_reducible first | exact bys_one _ | exact u32s_one _ | exact u64s_one _ | exact i64s_one _ | exact n64s_one _ | assumption) | exact bys_one _ | exact u32s_one _ | exact u64s_one _ | exact i64s_one _ | exact one_all rfl | (refine app_one ?_ ?_ <;> first | exact bys_one _ | exact one_all rfl | (simp; done))) (by first | assumption | omega | (simp only [bys_length]; omega) | (simp only [envC_len, *] <;> omega)) ?_
  simp only [List.set_cons_zero, List.set_cons_succ]
  refine vl_nil ?_
  refine (th_n ?_)
  refine VC_seq ?_
  rw [envC_spl34 lcm hz32 lpub]
  refine VC_drawQ 5 5 [[], [], [], [2], [1, 3], [0, 4], [0, 1, 2, 3, 4, 5], [6, 5, 0, 1, 2, 3, 4]] [[], [], [], [2], [1, 2, 3], [0, 1, 2, 3, 4], [0, 1, 2, 3, 4, 5], [0, 1, 2, 3, 4, 5, 6]] [([], [], [], [0, 2, 3, 4], []), ([], [], [], [0, 2, 3, 4], []), ([], [], [], [0, 1, 2, 3, 4], []), ([2], [1], [], [0, 2, 3, 4], [2]), ([1, 2, 3], [], [3], [0, 2, 3, 4], [1, 2])] [0, 2, 3, 4] [0, 1, 2, 4] rfl rfl (by kernel_rfl) ?_
  refine qp_a (fun xs gs hx => q_litA (cs := bys []) Try.underlying26 in5 (by decide) rfl rfl rfl rfl (by first | (with_reducible first | exact bys_one _ | exact u32s_one _ | exact u64s_one _ | exact i64s_one _ | exact n64s_one _ | assumption) | exact bys_one _ | exact u32s_one _ | exact u64s_one _ | exact i64s_one _ | exact one_all rfl | (refine app_one ?_ ?_ <;> first | exact bys_one _ | exact one_all rfl | (simp; done))) rfl) ?_
  refine qp_v (fun xs gs hx => q_load 0 Try.underlying46 rfl rfl rfl rfl) ?_
  refine qp_v (fun xs gs hx => q_load 0 Try.underlying46 rfl rfl rfl rfl) ?_
  refine qp_callE (fun xs gs v _ => v = vN (reN l)) (fun xs gs v _ => [.blk b9 48 [.slice A5 (m - 1 - 1 - 32 - 40 - 2) c5]]) Try.func30 rfl rfl (args := fun xs gs => [vP b9 0, vN 2]) (fun xs gs hx => rfl) (fun xs gs hx R w1 H1 => (s4 _ w1 H1).mono fun e w' h => ⟨_, undef, h.1, (by intro h; cases h), rfl, h.2⟩) ?_
  refine qp_callE (fun xs gs v _ => v = .slice A5 (reN l) c5) (fun xs gs v _ => [.blk b9 48 [.slice A6 (m - 1 - 1 - 32 - 40 - 2 - reN l) c6]]) Try.func32 rfl rfl (args := fun xs gs => [vP b9 0, vN (reN l)]) (fun xs gs hx => congrArg (fun v => some [vP b9 0, v]) (hx.2.1 rfl)) (fun xs gs hx R w1 H1 => (s5 _ w1 H1).mono fun e w' h => ⟨_, undef, h.1, (by intro h; cases h), rfl, h.2⟩) ?_
  refine qp_end ?_
  intro xs gs hx
  obtain ⟨⟨b14, e14⟩, f17, f18, _⟩ := hx
  simp only [selI, ownsA, List.contains_cons, List.contains_nil, Nat.reduceBEq, Nat.reduceAdd, Bool.or_false, Bool.or_true, Bool.false_or, Bool.true_or, mask, nRow, nBlk, nRowT, tupAt_0, tupAt_1, List.append_assoc, List.nil_append, List.append_nil, List.cons_append, List.singleton_append, e14]
  have f18 : xs 4 = .slice A5 (reN l) c5 := f18
  rw [f18]
  refine VL.keep (Sub.cons (s := 0) rfl (Sub.cons (s := 1) rfl (Sub.cons (s := 14) rfl (Sub.cons (s := 18) rfl (Sub.nil _))))) ?_
  refine l_append 4 rfl rfl rfl Try.underlying26 Try.underlying26 in5 rfl (by decide) (Reads.old hbod) (by first | assumption | omega | (simp only [bys_length]; omega) | (simp only [envC_len, *] <;> omega)) (by first | (with_reducible first | exact bys_one _ | exact u32s_one _ | exact u64s_one _ | exact i64s_one _ | exact n64s_one _ | assumption) | exact bys_one _ | exact u32s_one _ | exact u64s_one _ | exact i64s_one _ | exact one_all rfl | (refine app_one ?_ ?_ <;> first | exact bys_one _ | exact one_all rfl | (simp; done))) (by first | assumption | omega | (simp only [bys_length]; omega) | (simp only [envC_len, *] <;> omega)) (by first | assumption | omega | (simp only [bys_length]; omega) | (simp only [envC_len, *] <;> omega)) rfl ?_
  intro A19 c19 hc19
  simp only [List.set_cons_zero, List.set_cons_succ, ← bys_append, ← u32s_append, ← u64s_append, ← i64s_append, List.nil_append, Nat.zero_add]
  refine vl_v (q_fldA fo35_4 (by decide) rfl rfl) rfl ?_
  refine l_store1 1 rfl rfl rfl sz26 rfl (by first | decide | (simp; done) | first | assumption | omega | (simp only [bys_length]; omega) | (simp only [envC_len, *] <;> omega)) ?_
  simp only [List.set_cons_zero, List.set_cons_succ]
  refine vl_nil ?_
  refine (qn_n (th_n ?_))
  rw [envC_set68 lcm lpub]
  refine VC_drawV 3 [[], [], [1], [0, 2]] [[], [], [1], [0, 1, 2]] rfl (by kernel_rfl) ?_
  refine qv_v (q_load 0 Try.underlying46 rfl rfl rfl rfl) ?_
  refine qv_v (q_loads 1 Try.underlying35 rfl rfl rfl sz35 (elen3 _ _ _ _ _)) ?_
  refine qv_v (q_callV Try.func27 rfl rfl rfl (fun w1 H1 => hright _ _ w1)) ?_
  refine qv_end ?_
  refine VL.keep (Sub.cons (s := 0) rfl (Sub.cons (s := 1) rfl (Sub.cons (s := 21) rfl (Sub.cons (s := 23) rfl (Sub.nil _))))) ?_
  refine l_callX Try.func25 rfl rfl rfl (fun w1 H1 => hmust _ _ _ w1 (H1.pick (ks := [5, 0, 1, 2, 3, 4]) (by decide) rfl)) ?_
  refine (qn_p fun _ => ?_)
  exact ⟨rfl, fun w' H => ⟨(_, _), H.pick (ks := [3, 1, 0, 2, 4]) (by decide) rfl⟩⟩
set_option maxHeartbeats 1000000 in
theorem renv_ok12 {w0 : World} (b5 b9 b4 : Nat) (x1 x2 : Res) (l : List UInt8) (A : Option Addr) (m c : Nat) (hm : m = l.length) (hc : m ≤ c) (h2 : m = 76 + reN l) (hr0 : reR l (reN l) = true) (hA : SlAt w0 A (bys l)) (w : World) (H : St [] w0 [.blk b5 46 [vP b9 0], .blk b9 48 [.slice A m c], .blk b4 35 zEnvC, x1, x2] w) :
    Calls Try.prog 29 #[vP b5 0, vP b4 0] w fun e w' => e = gaveUp none ∧ ∃ x, St [] w0 (x1 :: reL b5 b9 b4 x2 (reF l) (reT l) (reC l) (rdP (l.drop 34)) (rdM (l.drop 34)) (rdN (l.drop 34)) (reN l) ((l.drop 76).take (reN l)) x) w' := by
  have hz32 : (List.replicate 32 (0 : UInt8)).length = 32 := by simp
  have ez : zEnvC = envC 0 0 (List.replicate 32 0) (List.replicate 32 0) 0 0 (.slice none 0 0) := rfl
  rw [ez] at H
  have elen := fun (f t : Int) (p q : Int) (s : Value) => envC_len (f := f) (t := t) (p := p) (q := q) (sl := s) hz32 hz32
  obtain ⟨A1, c1, hA1, hc1, s0⟩ := number_s (w0 := w0) b9 l A m c 1 hm hc (by omega) (by omega) hA
  have ef : ofHigh (l.take 1) = reF l := rfl
  rw [ef] at s0
  obtain ⟨A2, c2, hA2, hc2, s1⟩ := number_s (w0 := w0) b9 (l.drop 1) A1 (m - 1) c1 1 (by simp; omega) hc1 (by omega) (by omega) hA1
  have et : ofHigh ((l.drop 1).take 1) = reT l := rfl
  rw [et] at s1
  rw [List.drop_drop] at hA2
  have hA2 : SlAt w0 A2 (bys (l.drop 2)) := hA2
  obtain ⟨A3, c3, hA3, hc3, s2⟩ := key_s (w0 := w0) b9 (l.drop 2) A2 (m - 1 - 1) c2 (by simp; omega) hc2 (by omega) hA2
  have ec : (l.drop 2).take 32 = reC l := rfl
  have lcm : (reC l).length = 32 := by rw [← ec]; simp; omega
  rw [ec] at s2
  rw [List.drop_drop] at hA3
  have hA3 : SlAt w0 A3 (bys (l.drop 34)) := hA3
  have elen2 := fun (f t : Int) (p q : Int) (s : Value) => envC_len (f := f) (t := t) (p := p) (q := q) (sl := s) lcm hz32
  obtain ⟨A4, c4, hA4, hc4, s3⟩ := head_s (w0 := w0) b9 (l.drop 34) A3 (m - 1 - 1 - 32) c3 (by simp; omega) hc3 (by omega) hA3
  have lpub : (rdP (l.drop 34)).length = 32 := by rw [rdP]; simp; omega
  have lh := headC_length lpub (rdM (l.drop 34)) (rdN (l.drop 34))
  have oh : ∀ u ∈ headC (rdP (l.drop 34)) (rdM (l.drop 34)) (rdN (l.drop 34)), u.oneCell' = true := app_one (bys_one _) (one_all rfl)
  rw [List.drop_drop] at hA4
  have hA4 : SlAt w0 A4 (bys (l.drop 74)) := hA4
  have elen3 := fun (f t : Int) (p q : Int) (s : Value) => envC_len (f := f) (t := t) (p := p) (q := q) (sl := s) lcm lpub
  obtain ⟨A5, c5, hA5, hc5, s4⟩ := number_s (w0 := w0) b9 (l.drop 74) A4 (m - 1 - 1 - 32 - 40) c4 2 (by simp; omega) hc4 (by omega) (by omega) hA4
  have en : ofHigh ((l.drop 74).take 2) = reN l := rfl
  rw [en] at s4
  rw [List.drop_drop] at hA5
  have hA5 : SlAt w0 A5 (bys (l.drop 76)) := hA5
  obtain ⟨A6, c6, hA6, hc6, s5⟩ := take_s (w0 := w0) b9 (l.drop 76) A5 (m - 1 - 1 - 32 - 40 - 2) c5 (reN l) (by simp; omega) hc5 (by omega) hA5
  have hbod := at_take (n := reN l) hA5
  have lbod : ((l.drop 76).take (reN l)).length = reN l := by simp; omega
  have nlt := reN_lt l
  have hright := fun (B : Option Addr) (cB : Nat) => hrightE_calls (reF l) (reT l) (reC l) (rdP (l.drop 34)) (rdM (l.drop 34)) (rdN (l.drop 34)) (reN l) cB B lcm lpub
  rw [show rightEB (reF l) (reT l) (rdM (l.drop 34)) (rdN (l.drop 34)) (reN l) = true from hr0] at hright
  refine enter (n := 25) (R := fun e M => e = .returned (.tuple #[]) ∧ ∀ w', St [] w0 M w' → ∃ x, St [] w0 (x1 :: reL b5 b9 b4 x2 (reF l) (reT l) (reC l) (rdP (l.drop 34)) (rdM (l.drop 34)) (rdN (l.drop 34)) (reN l) ((l.drop 76).take (reN l)) x) w') [vP b5 0, vP b4 0] Try.func29 rfl rfl rfl H ?_ (fun e w' L' h H => ⟨h.1, h.2 w' H⟩)
  refine VC_seq ?_
  refine VC_region ?_
  refine vl_v (q_load 0 Try.underlying46 rfl rfl rfl rfl) rfl ?_
  refine l_callE Try.func30 rfl rfl rfl (fun w1 H1 => (s0 _ w1 (H1.perm (List.Perm.swap _ _ _))).mono fun e w' h => ⟨h.1, h.2.perm (List.Perm.swap _ _ _)⟩) rfl ?_
  refine vl_v (q_fldA fo35_0 (by decide) rfl rfl) rfl ?_
  first | (refine l_stI 2 rfl rfl rfl sz3 (by first | assumption | omega | (simp only [bys_length]; omega) | (simp only [envC_len, *] <;> omega)) ?_) | (refine l_store1 2 rfl rfl rfl sz3 rfl (by first | decide | (simp; done) | first | assumption | omega | (simp only [bys_length]; omega) | (simp only [envC_len, *] <;> omega)) ?_)
  simp only [List.set_cons_zero, List.set_cons_succ]
  refine vl_nil ?_
  refine (th_n ?_)
  refine VC_seq ?_
  rw [envC_set0]
  refine VC_region ?_
  refine vl_v (q_load 0 Try.underlying46 rfl rfl rfl rfl) rfl ?_
  refine l_callE Try.func30 rfl rfl rfl (fun w1 H1 => (s1 _ w1 (H1.perm (List.Perm.swap _ _ _))).mono fun e w' h => ⟨h.1, h.2.perm (List.Perm.swap _ _ _)⟩) rfl ?_
  refine vl_v (q_fldA fo35_1 (by decide) rfl rfl) rfl ?_
  first | (refine l_stI 2 rfl rfl rfl sz3 (by first | assumption | omega | (simp only [bys_length]; omega) | (simp only [envC_len, *] <;> omega)) ?_) | (refine l_store1 2 rfl rfl rfl sz3 rfl (by first | decide | (simp; done) | first | assumption | omega | (simp only [bys_length]; omega) | (simp only [envC_len, *] <;> omega)) ?_)
  simp only [List.set_cons_zero, List.set_cons_succ]
  refine vl_nil ?_
  refine (th_n ?_)
  refine VC_seq ?_
  rw [envC_set1]
  refine VC_region ?_
  refine vl_v (q_load 0 Try.underlying46 rfl rfl rfl rfl) rfl ?_
  refine l_callE Try.func31 rfl rfl rfl (fun w1 H1 => (s2 _ w1 (H1.perm (List.Perm.swap _ _ _))).mono fun e w' h => ⟨h.1, h.2.perm (List.Perm.swap _ _ _)⟩) rfl ?_
  refine vl_v (q_fldA fo35_2 (by decide) rfl rfl) rfl ?_
  refine l_storeG 2 rfl rfl rfl sz23 (by first | assumption | omega | (simp only [bys_length]; omega) | (simp only [envC_len, *] <;> omega)) (by first | (with_reducible first | exact bys_one _ | exact u32s_one _ | exact u64s_one _ | exact i64s_one _ | exact n64s_one _ | assumption) | exact bys_one _ | exact u32s_one _ | exact u64s_one _ | exact i64s_one _ | exact one_all rfl | (refine app_one ?_ ?_ <;> first | exact bys_one _ | exact one_all rfl | (simp; done))) (by first | assumption | omega | (simp only [bys_length]; omega) | (simp only [envC_len, *] <;> omega)) ?_
  simp only [List.set_cons_zero, List.set_cons_succ]
  refine vl_nil ?_
  refine (th_n ?_)
  refine VC_seq ?_
  rw [envC_spl2 hz32 lcm]
  refine VC_region ?_
  refine vl_v (q_load 0 Try.underlying46 rfl rfl rfl rfl) rfl ?_
  refine l_callE Try.func24 rfl rfl rfl (fun w1 H1 => (s3 _ w1 (H1.perm (List.Perm.swap _ _ _))).mono fun e w' h => ⟨h.1, h.2.perm (List.Perm.swap _ _ _)⟩) rfl ?_
  refine vl_v (q_fldA fo35_3 (by decide) rfl rfl) rfl ?_
  refine l_storeG 2 rfl rfl rfl sz25 (by first | assumption | omega | (simp only [bys_length]; omega) | (simp only [envC_len, *] <;> omega)) (by first | (with_reducible first | exact bys_one _ | exact u32s_one _ | exact u64s_one _ | exact i64s_one _ | exact n64s_one _ | assumption) | exact bys_one _ | exact u32s_one _ | exact u64s_one _ | exact i64s_one _ | exact one_all rfl | (refine app_one ?_ ?_ <;> first | exact bys_one _ | exact one_all rfl | (simp; done))) (by first | assumption | omega | (simp only [bys_length]; omega) | (simp only [envC_len, *] <;> omega)) ?_
  simp only [List.set_cons_zero, List.set_cons_succ]
  refine vl_nil ?_
  refine (th_n ?_)
  refine VC_seq ?_
  rw [envC_spl34 lcm hz32 lpub]
  refine VC_drawQ 5 5 [[], [], [], [2], [1, 3], [0, 4], [0, 1, 2, 3, 4, 5], [6, 5, 0, 1, 2, 3, 4]] [[], [], [], [2], [1, 2, 3], [0, 1, 2, 3, 4], [0, 1, 2, 3, 4, 5], [0, 1, 2, 3, 4, 5, 6]] [([], [], [], [0, 2, 3, 4], []), ([], [], [], [0, 2, 3, 4], []), ([], [], [], [0, 1, 2, 3, 4], []), ([2], [1], [], [0, 2, 3, 4], [2]), ([1, 2, 3], [], [3], [0, 2, 3, 4], [1, 2])] [0, 2, 3, 4] [0, 1, 2, 4] rfl rfl (by kernel_rfl) ?_
  refine qp_a (fun xs gs hx => q_litA (cs := bys []) Try.underlying26 in5 (by decide) rfl rfl rfl rfl (by first | (with_reducible first | exact bys_one _ | exact u32s_one _ | exact u64s_one _ | exact i64s_one _ | exact n64s_one _ | assumption) | exact bys_one _ | exact u32s_one _ | exact u64s_one _ | exact i64s_one _ | exact one_all rfl | (refine app_one ?_ ?_ <;> first | exact bys_one _ | exact one_all rfl | (simp; done))) rfl) ?_
  refine qp_v (fun xs gs hx => q_load 0 Try.underlying46 rfl rfl rfl rfl) ?_
  refine qp_v (fun xs gs hx => q_load 0 Try.underlying46 rfl rfl rfl rfl) ?_
  refine qp_callE (fun xs gs v _ => v = vN (reN l)) (fun xs gs v _ => [.blk b9 48 [.slice A5 (m - 1 - 1 - 32 - 40 - 2) c5]]) Try.func30 rfl rfl (args := fun xs gs => [vP b9 0, vN 2]) (fun xs gs hx => rfl) (fun xs gs hx R w1 H1 => (s4 _ w1 H1).mono fun e w' h => ⟨_, undef, h.1, (by intro h; cases h), rfl, h.2⟩) ?_
  refine qp_callE (fun xs gs v _ => v = .slice A5 (reN l) c5) (fun xs gs v _ => [.blk b9 48 [.slice A6 (m - 1 - 1 - 32 - 40 - 2 - reN l) c6]]) Try.func32 rfl rfl (args := fun xs gs => [vP b9 0, vN (reN l)]) (fun xs gs hx => congrArg (fun v => some [vP b9 0, v]) (hx.2.1 rfl)) (fun xs gs hx R w1 H1 => (s5 _ w1 H1).mono fun e w' h => ⟨_, undef, h.1, (by intro h; cases h), rfl, h.2⟩) ?_
  refine qp_end ?_
  intro xs gs hx
  obtain ⟨⟨b14, e14⟩, f17, f18, _⟩ := hx
  simp only [selI, ownsA, List.contains_cons, List.contains_nil, Nat.reduceBEq, Nat.reduceAdd, Bool.or_false, Bool.or_true, Bool.false_or, Bool.true_or, mask, nRow, nBlk, nRowT, tupAt_0, tupAt_1, List.append_assoc, List.nil_append, List.append_nil, List.cons_append, List.singleton_append, e14]
  have f18 : xs 4 = .slice A5 (reN l) c5 := f18
  rw [f18]
  refine VL.keep (Sub.cons (s := 0) rfl (Sub.cons (s := 1) rfl (Sub.cons (s := 14) rfl (Sub.cons (s := 18) rfl (Sub.nil _))))) ?_
  refine l_append 4 rfl rfl rfl Try.underlying26 Try.underlying26 in5 rfl (by decide) (Reads.old hbod) (by first | assumption | omega | (simp only [bys_length]; omega) | (simp only [envC_len, *] <;> omega)) (by first | (with_reducible first | exact bys_one _ | exact u32s_one _ | exact u64s_one _ | exact i64s_one _ | exact n64s_one _ | assumption) | exact bys_one _ | exact u32s_one _ | exact u64s_one _ | exact i64s_one _ | exact one_all rfl | (refine app_one ?_ ?_ <;> first | exact bys_one _ | exact one_all rfl | (simp; done))) (by first | assumption | omega | (simp only [bys_length]; omega) | (simp only [envC_len, *] <;> omega)) (by first | assumption | omega | (simp only [bys_length]; omega) | (simp only [envC_len, *] <;> omega)) rfl ?_
  intro A19 c19 hc19
  simp only [List.set_cons_zero, List.set_cons_succ, ← bys_append, ← u32s_append, ← u64s_append, ← i64s_append, List.nil_append, Nat.zero_add]
  refine vl_v (q_fldA fo35_4 (by decide) rfl rfl) rfl ?_
  refine l_store1 1 rfl rfl rfl sz26 rfl (by first | decide | (simp; done) | first | assumption | omega | (simp only [bys_length]; omega) | (simp only [envC_len, *] <;> omega)) ?_
  simp only [List.set_cons_zero, List.set_cons_succ]
  refine vl_nil ?_
  refine (qn_n (th_n ?_))
  rw [envC_set68 lcm lpub]
  refine VC_drawV 3 [[], [], [1], [0, 2]] [[], [], [1], [0, 1, 2]] rfl (by kernel_rfl) ?_
  refine qv_v (q_load 0 Try.underlying46 rfl rfl rfl rfl) ?_
  refine qv_v (q_loads 1 Try.underlying35 rfl rfl rfl sz35 (elen3 _ _ _ _ _)) ?_
  refine qv_v (q_callV Try.func27 rfl rfl rfl (fun w1 H1 => hright _ _ w1)) ?_
  refine qv_end ?_
  refine VL.keep (Sub.cons (s := 0) rfl (Sub.cons (s := 1) rfl (Sub.cons (s := 21) rfl (Sub.cons (s := 23) rfl (Sub.nil _))))) ?_
  refine l_callE Try.func25 rfl rfl rfl (fun w1 H1 => must_ok b9 A6 _ c6 (by omega) w1 (H1.pick (ks := [5, 0, 1, 2, 3, 4]) (by decide) rfl)) rfl ?_
  refine vl_nil ?_
  refine (qn_n ?_)
  refine ⟨_, res0 rfl, ?_⟩
  exact ⟨rfl, fun w' H => ⟨(_, _, _), H.pick (ks := [3, 5, 1, 0, 2, 4]) (by decide) rfl⟩⟩
end Go.Proofs.Ytpjjledbmfmbiaa
