/- What the functions of package head do, first part: a head's bytes; what is taken off bytes, and what is given up for. Conditions: lengths that memory bears. -/
import Derived.Test.YtpjjledbmfmbiaaV12
import Derived.Test.YtpjjledbmfmbiaaS12
import Derived.Test.YtpjjledbmfmbiaaK01
import Derived.Test.YtpjjledbmfmbiaaPF
namespace Go.Proofs.Ytpjjledbmfmbiaa
open Go.RowKit Go.PBYtpjjledbmfmbiaa
set_option linter.unusedVariables false
set_option linter.unusedSimpArgs false
set_option maxRecDepth 10000

theorem hright_calls (pub : List UInt8) (p q : Int) (hp : pub.length = 32) (w : World) :
    Calls Try.prog 18 #[.agg (headC pub p q).toArray] w fun e w' => e = .returned (.bool (rightB p q)) ∧ Kept [] w w' := by
  have h0 := headC_length hp p q
  have g0 : (headC pub p q)[32]? = some (vI p) := by unfold headC; rw [List.getElem?_append_right (by simp [bys, hp])]; simp [bys, hp]
  have g1 : (headC pub p q)[33]? = some (vI q) := by unfold headC; rw [List.getElem?_append_right (by simp [bys, hp])]; simp [bys, hp]
  obtain ⟨c, hc⟩ : ∃ c, headC pub p q = c := ⟨_, rfl⟩
  rw [hc] at h0 g0 g1 ⊢
  refine enter (n := 17) (R := fun e L => e = .returned (.bool (rightB p q))) [.agg c.toArray] Try.func18 rfl rfl rfl (St.refl w) ?_ (fun e w' L' h H => ⟨h, H.kept⟩)
  refine VC_seq ?_
  refine VC_region ?_
  refine l_boxA rfl rfl ?_
  intro b1
  refine vl_v (q_assign rfl) rfl ?_
  refine vl_nil ?_
  refine (th_n ?_)
  refine VC_seq ?_
  refine VC_region ?_
  refine vl_v (q_fldA fo25_1 (by decide) rfl rfl) rfl ?_
  refine vl_v (q_load 0 Try.underlying3 rfl rfl rfl g0) rfl ?_
  refine vl_v (q_fldA fo25_2 (by decide) rfl rfl) rfl ?_
  refine vl_v (q_load 0 Try.underlying3 rfl rfl rfl g1) rfl ?_
  refine vl_v (q_minI rfl rfl) rfl ?_
  refine vl_v (q_geq_k Try.underlying3 rfl rfl) rfl ?_
  by_cases hs8 : 0 ≤ min p q
  · skip
    rw [show decide (0 ≤ min p q) = true from decide_eq_true hs8]
    refine vl_v (q_move rfl) rfl ?_
    refine vl_vg rfl (q_fldA fo25_1 (by decide) rfl rfl) rfl ?_
    refine vl_vg rfl (q_load 0 Try.underlying3 rfl rfl rfl g0) rfl ?_
    refine vl_vg rfl (q_fldA fo25_2 (by decide) rfl rfl) rfl ?_
    refine vl_vg rfl (q_load 0 Try.underlying3 rfl rfl rfl g1) rfl ?_
    refine vl_vg rfl (q_maxI rfl rfl) rfl ?_
    refine vl_vg rfl (q_leq_k Try.underlying3 rfl rfl) rfl ?_
    first | (refine vl_v (q_pickT rfl rfl) rfl ?_) | (refine vl_v (q_pickF rfl rfl) rfl ?_)
    refine vl_v (q_assign rfl) rfl ?_
    refine vl_nil ?_
    refine (th_n ?_)
    refine VC_ret ?_
    refine ⟨_, res1 rfl rfl, ?_⟩
    first | (exact congrArg (fun b => Ending.returned (Value.bool b)) (by unfold rightB; first | (rw [decide_eq_true hs8, Bool.true_and]) | (rw [decide_eq_false hs8, Bool.false_and])))
  · skip
    rw [show decide (0 ≤ min p q) = false from decide_eq_false hs8]
    refine vl_v (q_move rfl) rfl ?_
    refine vl_skip rfl rfl ?_
    refine vl_skip rfl rfl ?_
    refine vl_skip rfl rfl ?_
    refine vl_skip rfl rfl ?_
    refine vl_skip rfl rfl ?_
    refine vl_skip rfl rfl ?_
    first | (refine vl_v (q_pickT rfl rfl) rfl ?_) | (refine vl_v (q_pickF rfl rfl) rfl ?_)
    refine vl_v (q_assign rfl) rfl ?_
    refine vl_nil ?_
    refine (th_n ?_)
    refine VC_ret ?_
    refine ⟨_, res1 rfl rfl, ?_⟩
    first | (exact congrArg (fun b => Ending.returned (Value.bool b)) (by unfold rightB; first | (rw [decide_eq_true hs8, Bool.true_and]) | (rw [decide_eq_false hs8, Bool.false_and])))

theorem take_ok {w0 : World} {L : List Res} (b : Nat) (l : List UInt8) (A : Option Addr) (m c n : Nat) (hm : m = l.length) (hc : m ≤ c) (hn : n ≤ m) (w : World) (H : St [] w0 (.blk b 48 [.slice A m c] :: L) w) :
    Calls Try.prog 32 #[vP b 0, vN n] w fun e w' => e = .returned (.slice A n c) ∧ St [] w0 (.blk b 48 [.slice (adv A n c 1) (m - n) (c - n)] :: L) w' := by
  refine enter (n := 30) (R := fun e M => e = .returned (.slice A n c) ∧ M = .blk b 48 [.slice (adv A n c 1) (m - n) (c - n)] :: L) [vP b 0, vN n] Try.func32 rfl rfl rfl H ?_ (fun e w' L' h H => ⟨h.1, h.2 ▸ H⟩)
  refine VC_seq ?_
  refine VC_region ?_
  refine vl_v (q_assign rfl) rfl ?_
  refine vl_nil ?_
  refine (th_n ?_)
  refine VC_seq ?_
  refine VC_seq ?_
  refine VC_region ?_
  refine vl_v (q_move rfl) rfl ?_
  refine vl_v (q_move rfl) rfl ?_
  refine vl_v (q_nilck rfl) rfl ?_
  refine vl_v (q_fldA fo48_0 (by decide) rfl rfl) rfl ?_
  refine vl_v (q_load 0 Try.underlying26 rfl rfl rfl rfl) rfl ?_
  refine vl_v (q_lenS Try.underlying26 rfl) rfl ?_
  first | (refine vl_v (q_gtr_n Try.underlying3 rfl rfl) rfl ?_) | (refine vl_v (q_gtr_k Try.underlying3 rfl rfl) rfl ?_)
  refine vl_nil ?_
  refine (th_n ?_)
  refine VC_cond rfl (fun ht12 => ?_) (fun ht12 => ?_)
  · skip
    exfalso; have ht12 := of_decide_eq_true ht12; omega
  · skip
    have ht12 := of_decide_eq_false ht12
    refine VC_skip ?_
    refine (th_n ?_)
    refine VC_seq ?_
    refine VC_region ?_
    refine vl_v (q_move rfl) rfl ?_
    refine vl_v (q_nilck rfl) rfl ?_
    refine vl_v (q_fldA fo48_0 (by decide) rfl rfl) rfl ?_
    refine vl_v (q_load 0 Try.underlying26 rfl rfl rfl rfl) rfl ?_
    refine vl_v (q_move rfl) rfl ?_
    refine vl_v (q_slcS0 Try.underlying26 sz5 rfl ⟨_, rfl⟩ rfl (.inl rfl) (by omega) (by omega)) rfl ?_
    refine vl_v (q_assign rfl) rfl ?_
    refine vl_nil ?_
    refine (th_n ?_)
    refine VC_seq ?_
    refine VC_region ?_
    refine vl_v (q_move rfl) rfl ?_
    refine vl_v (q_move rfl) rfl ?_
    refine vl_v (q_nilck rfl) rfl ?_
    refine vl_v (q_fldA fo48_0 (by decide) rfl rfl) rfl ?_
    refine vl_v (q_load 0 Try.underlying26 rfl rfl rfl rfl) rfl ?_
    refine vl_v (q_move rfl) rfl ?_
    refine vl_v (q_slcS Try.underlying26 sz5 rfl ⟨_, rfl⟩ rfl rfl (.inl rfl) (by omega) (by omega) (by omega)) rfl ?_
    refine vl_v (q_nilck rfl) rfl ?_
    refine vl_v (q_fldA fo48_0 (by decide) rfl rfl) rfl ?_
    refine l_store1 0 rfl rfl rfl sz26 rfl (by first | decide | (simp; done) | first | omega | with_reducible assumption | (simp only [zb, zu, zw, zi, za]; omega) | (simp only [zs, zr, zm, za, zb, zu, zw, zi, zt, zd, zc, zn, *] <;> first | done | omega) | rfl) ?_
    simp only [List.set_cons_zero, List.set_cons_succ]
    refine vl_nil ?_
    refine (th_n ?_)
    refine VC_seq ?_
    refine VC_region ?_
    refine vl_v (q_move rfl) rfl ?_
    refine vl_v (q_assign rfl) rfl ?_
    refine vl_nil ?_
    refine (th_n ?_)
    refine VC_ret ?_
    refine ⟨_, res1 rfl rfl, ?_⟩
    exact ⟨rfl, rfl⟩
theorem take_bad {w0 : World} {L : List Res} (b : Nat) (A : Option Addr) (m c n : Nat) (hn : m < n) (w : World) (H : St [] w0 (.blk b 48 [.slice A m c] :: L) w) :
    Calls Try.prog 32 #[vP b 0, vN n] w fun e w' => e = .panicked (chOf 3) ∧ St [] w0 (.blk b 48 [.slice A m c] :: L) w' := by
  refine enter (n := 30) (R := fun e M => e = .panicked (chOf 3) ∧ M = .blk b 48 [.slice A m c] :: L) [vP b 0, vN n] Try.func32 rfl rfl rfl H ?_ (fun e w' L' h H => ⟨h.1, h.2 ▸ H⟩)
  refine VC_seq ?_
  refine VC_region ?_
  refine vl_v (q_assign rfl) rfl ?_
  refine vl_nil ?_
  refine (th_n ?_)
  refine VC_seq ?_
  refine VC_seq ?_
  refine VC_region ?_
  refine vl_v (q_move rfl) rfl ?_
  refine vl_v (q_move rfl) rfl ?_
  refine vl_v (q_nilck rfl) rfl ?_
  refine vl_v (q_fldA fo48_0 (by decide) rfl rfl) rfl ?_
  refine vl_v (q_load 0 Try.underlying26 rfl rfl rfl rfl) rfl ?_
  refine vl_v (q_lenS Try.underlying26 rfl) rfl ?_
  first | (refine vl_v (q_gtr_n Try.underlying3 rfl rfl) rfl ?_) | (refine vl_v (q_gtr_k Try.underlying3 rfl rfl) rfl ?_)
  refine vl_nil ?_
  refine (th_n ?_)
  refine VC_cond rfl (fun ht12 => ?_) (fun ht12 => ?_)
  · skip
    have ht12 := of_decide_eq_true ht12
    refine VC_region ?_
    refine vl_v (q_iface Try.underlying28 rfl) rfl ?_
    refine l_panic rfl ?_
    refine (th_p ?_)
    exact ⟨rfl, rfl⟩
  · skip
    exfalso; have ht12 := of_decide_eq_false ht12; omega

theorem adv_at {w : World} {A : Option Addr} {l : List UInt8} {m c n : Nat} (h : SlAt w A (bys l)) (hm : m = l.length) (hc : m ≤ c) : SlAt w (adv A n c 1) (bys (l.drop n)) := by
  have := h.adv (l := n) (m := c) (sz := 1) (by simp [bys]; omega)
  rw [Nat.mul_one] at this
  rwa [show (bys l).drop n = bys (l.drop n) by simp [bys]] at this
theorem at_take {w : World} {A : Option Addr} {l : List UInt8} {n : Nat} (h : SlAt w A (bys l)) : SlAt w A (bys (l.take n)) := by
  rw [show bys (l.take n) = (bys l).take n by simp [bys]]
  exact h.take n
theorem number_ok {w0 : World} {L : List Res} (b : Nat) (l : List UInt8) (A : Option Addr) (m c n r : Nat) (hm : m = l.length) (hc : m ≤ c) (hn : n ≤ m) (h7 : n ≤ 7) (hA : SlAt w0 A (bys l)) (hr : ofHigh (l.take n) = r) (w : World) (H : St [] w0 (.blk b 48 [.slice A m c] :: L) w) :
    Calls Try.prog 30 #[vP b 0, vN n] w fun e w' => e = .returned (vN r) ∧ St [] w0 (.blk b 48 [.slice (adv A n c 1) (m - n) (c - n)] :: L) w' := by
  have hl : (l.take n).length = n := by rw [List.length_take]; omega
  have hr2 := ofHigh_lt7 (l.take n) (by omega)
  rw [hr] at hr2
  have hr3 : ofHigh ((l.take n).take 8) = r := by rw [List.take_of_length_le (by omega)]; exact hr
  refine enter (n := 10) (R := fun e M => e = .returned (vN r) ∧ M = .blk b 48 [.slice (adv A n c 1) (m - n) (c - n)] :: L) [vP b 0, vN n] Try.func30 rfl rfl rfl H ?_ (fun e w' L' h H => ⟨h.1, h.2 ▸ H⟩)
  refine VC_seq ?_
  refine VC_region ?_
  refine vl_v (q_assign rfl) rfl ?_
  refine vl_nil ?_
  refine (th_n ?_)
  refine VC_seq ?_
  refine VC_region ?_
  refine vl_v (q_move rfl) rfl ?_
  refine vl_v (q_move rfl) rfl ?_
  refine l_callE Try.func32 rfl rfl rfl (fun w1 H1 => take_ok b l A m c n hm hc hn w1 H1) rfl ?_
  refine vl_v (q_callV Try.func38 rfl rfl rfl (fun w1 H1 => (hl ▸ ofHigh_calls (l.take n) A c w1 (Reads.old (at_take hA) w1 H1) (by omega) (by omega)).mono fun e w' h => ⟨hr3 ▸ h.1, h.2 ▸ Kept.refl _ _⟩)) rfl ?_
  refine vl_v (q_conv_nn Try.underlying45 Try.underlying3 rfl (by omega)) rfl ?_
  refine vl_v (q_assign rfl) rfl ?_
  refine vl_nil ?_
  refine (th_n ?_)
  refine VC_ret ?_
  refine ⟨_, res1 rfl rfl, ?_⟩
  exact ⟨rfl, rfl⟩
theorem number_bad {w0 : World} {L : List Res} (b : Nat) (A : Option Addr) (m c n : Nat) (hn : m < n) (w : World) (H : St [] w0 (.blk b 48 [.slice A m c] :: L) w) :
    Calls Try.prog 30 #[vP b 0, vN n] w fun e w' => e = .panicked (chOf 3) ∧ St [] w0 (.blk b 48 [.slice A m c] :: L) w' := by
  refine enter (n := 10) (R := fun e M => e = .panicked (chOf 3) ∧ M = .blk b 48 [.slice A m c] :: L) [vP b 0, vN n] Try.func30 rfl rfl rfl H ?_ (fun e w' L' h H => ⟨h.1, h.2 ▸ H⟩)
  refine VC_seq ?_
  refine VC_region ?_
  refine vl_v (q_assign rfl) rfl ?_
  refine vl_nil ?_
  refine (th_n ?_)
  refine VC_seq ?_
  refine VC_region ?_
  refine vl_v (q_move rfl) rfl ?_
  refine vl_v (q_move rfl) rfl ?_
  refine l_callX Try.func32 rfl rfl rfl (fun w1 H1 => take_bad b A m c n hn w1 H1) ?_
  refine (th_p ?_)
  exact ⟨rfl, rfl⟩
theorem key_ok {w0 : World} {L : List Res} (b : Nat) (l : List UInt8) (A : Option Addr) (m c : Nat) (hm : m = l.length) (hc : m ≤ c) (hn : 32 ≤ m) (hA : SlAt w0 A (bys l)) (w : World) (H : St [] w0 (.blk b 48 [.slice A m c] :: L) w) :
    Calls Try.prog 31 #[vP b 0] w fun e w' => e = .returned (.agg (bys (l.take 32)).toArray) ∧ St [] w0 (.blk b 48 [.slice (adv A 32 c 1) (m - 32) (c - 32)] :: L) w' := by
  have hl : (l.take 32).length = 32 := by rw [List.length_take]; omega
  obtain ⟨ad, rfl⟩ := SlAt.some hA (by simp [bys]; omega)
  refine enter (n := 7) (R := fun e M => e = .returned (.agg (bys (l.take 32)).toArray) ∧ ∃ x, M = x :: .blk b 48 [.slice (adv (some ad) 32 c 1) (m - 32) (c - 32)] :: L) [vP b 0] Try.func31 rfl rfl rfl H ?_ (fun e w' L' h H => ⟨h.1, by obtain ⟨_, x, rfl⟩ := h; exact H.sub (List.sublist_cons_self _ _)⟩)
  refine VC_seq ?_
  refine VC_region ?_
  refine l_allocA zr23 rfl ?_
  intro b2
  refine vl_nil ?_
  refine (th_n ?_)
  refine VC_seq ?_
  refine VC_region ?_
  refine vl_v (q_move rfl) rfl ?_
  refine l_callE Try.func32 rfl rfl rfl (fun w1 H1 => (take_ok b l (some ad) m c 32 hm hc hn w1 (H1.perm (List.Perm.swap _ _ _))).mono fun e w' h => ⟨h.1, h.2.perm (List.Perm.swap _ _ _)⟩) rfl ?_
  refine vl_v (q_s2a Try.underlying23 rfl (by first | omega | with_reducible assumption | (simp only [zb, zu, zw, zi, za]; omega) | (simp only [zs, zr, zm, za, zb, zu, zw, zi, zt, zd, zc, zn, *] <;> first | done | omega) | rfl)) rfl ?_
  refine vl_v (q_loadsR (vs := bys (l.take 32)) Try.underlying23 rfl (by rw [sz23]; simp [bys]; omega) rfl (Reads.old (at_take hA))) rfl ?_
  refine l_storeA 0 rfl rfl rfl sz23 (by first | omega | with_reducible assumption | (simp only [zb, zu, zw, zi, za]; omega) | (simp only [zs, zr, zm, za, zb, zu, zw, zi, zt, zd, zc, zn, *] <;> first | done | omega) | rfl) (by first | (with_reducible first | exact bys_one _ | exact u32s_one _ | exact u64s_one _ | exact i64s_one _ | exact n64s_one _ | assumption) | exact bys_one _ | exact u32s_one _ | exact u64s_one _ | exact i64s_one _ | exact one_all rfl | (refine app_one ?_ ?_ <;> first | exact bys_one _ | exact one_all rfl | (simp; done))) (by first | omega | with_reducible assumption | (simp only [zb, zu, zw, zi, za]; omega) | (simp only [zs, zr, zm, za, zb, zu, zw, zi, zt, zd, zc, zn, *] <;> first | done | omega) | rfl) ?_
  simp only [List.set_cons_zero, List.set_cons_succ]
  refine vl_nil ?_
  refine (th_n ?_)
  refine VC_ret ?_
  refine ⟨_, resC1 0 rfl Try.underlying23 rfl rfl rfl sz23 (by first | omega | with_reducible assumption | (simp only [zb, zu, zw, zi, za]; omega) | (simp only [zs, zr, zm, za, zb, zu, zw, zi, zt, zd, zc, zn, *] <;> first | done | omega) | rfl), ?_⟩
  exact ⟨rfl, _, rfl⟩
theorem key_bad {w0 : World} {L : List Res} (b : Nat) (A : Option Addr) (m c : Nat) (hn : m < 32) (w : World) (H : St [] w0 (.blk b 48 [.slice A m c] :: L) w) :
    Calls Try.prog 31 #[vP b 0] w fun e w' => e = .panicked (chOf 3) ∧ St [] w0 (.blk b 48 [.slice A m c] :: L) w' := by
  refine enter (n := 7) (R := fun e M => e = .panicked (chOf 3) ∧ ∃ x, M = x :: .blk b 48 [.slice A m c] :: L) [vP b 0] Try.func31 rfl rfl rfl H ?_ (fun e w' L' h H => ⟨h.1, by obtain ⟨_, x, rfl⟩ := h; exact H.sub (List.sublist_cons_self _ _)⟩)
  refine VC_seq ?_
  refine VC_region ?_
  refine l_allocA zr23 rfl ?_
  intro b2
  refine vl_nil ?_
  refine (th_n ?_)
  refine VC_seq ?_
  refine VC_region ?_
  refine vl_v (q_move rfl) rfl ?_
  refine l_callX Try.func32 rfl rfl rfl (fun w1 H1 => (take_bad b A m c 32 hn w1 (H1.perm (List.Perm.swap _ _ _))).mono fun e w' h => ⟨h.1, h.2.perm (List.Perm.swap _ _ _)⟩) ?_
  refine (th_p ?_)
  exact ⟨rfl, _, rfl⟩
end Go.Proofs.Ytpjjledbmfmbiaa
