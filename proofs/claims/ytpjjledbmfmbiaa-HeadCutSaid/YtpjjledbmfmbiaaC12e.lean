/- What the functions of package head and the document's do: a head's bytes; the document's head of any bytes. Conditions: lengths that memory bears. -/
import Derived.Test.YtpjjledbmfmbiaaC12d
import Derived.Test.YtpjjledbmfmbiaaR01b
import Derived.Test.YtpjjledbmfmbiaaVI
namespace Go.Proofs.Ytpjjledbmfmbiaa
open Go.RowKit Go.PBYtpjjledbmfmbiaa
set_option linter.unusedVariables false
set_option linter.unusedSimpArgs false
set_option maxRecDepth 10000

theorem headC_at32 {pub : List UInt8} (hp : pub.length = 32) (p q : Int) : (headC pub p q)[32]? = some (vI p) := by unfold headC; rw [List.getElem?_append_right (by simp [bys, hp])]; simp [bys, hp]
theorem headC_at33 {pub : List UInt8} (hp : pub.length = 32) (p q : Int) : (headC pub p q)[33]? = some (vI q) := by unfold headC; rw [List.getElem?_append_right (by simp [bys, hp])]; simp [bys, hp]
theorem headC_pub {pub : List UInt8} (hp : pub.length = 32) (p q : Int) : (headC pub p q).take 32 = bys pub := by unfold headC; rw [List.take_left' (by simp [bys, hp])]
def rowTo (w : World) (n : Nat) (l : List UInt8) (u : Value) (e : Ending) (L : List Res) : Prop := ∃ v, e = .returned (.tuple #[v, u]) ∧ ∀ w', St [] w L w' → St [] w [.row 5 1 v n (bys l)] w'
theorem hbytes_ok (pub : List UInt8) (x y : Nat) (hp : pub.length = 32) (hx : x ≤ 1000000) (hy : y ≤ 1000000) (w : World) :
    Calls Try.prog 9 #[.agg (headC pub x y).toArray] w fun e w' => ∃ v, e = .returned (.tuple #[v, vN 0]) ∧ St [] w [.row 5 1 v 40 (bys (headB pub x y))] w' := by
  have h0 := headC_length hp x y
  have g0 := headC_at32 hp x y
  have g1 := headC_at33 hp x y
  have g2 := headC_pub hp x y
  have hr : rightB x y = true := rightB_iff.2 (by omega)
  have hri := hright_calls pub x y hp
  have l1 := highB_length x 4
  have l2 := highB_length y 4
  have hb : headB pub x y = pub ++ highB x 4 ++ highB y 4 := rfl
  rw [hb]
  obtain ⟨u1, hu1⟩ : ∃ u, highB x 4 = u := ⟨_, rfl⟩
  obtain ⟨u2, hu2⟩ : ∃ u, highB y 4 = u := ⟨_, rfl⟩
  obtain ⟨c, hc⟩ : ∃ c, headC pub x y = c := ⟨_, rfl⟩
  rw [hc] at h0 g0 g1 g2 hri ⊢
  rw [hu1] at l1
  rw [hu2] at l2
  rw [hu1, hu2]
  refine enter (n := 24) (R := rowTo w 40 (pub ++ u1 ++ u2) (vN 0)) [.agg c.toArray] Try.func9 rfl rfl rfl (St.refl w) ?_ (fun e w' L' h H => by obtain ⟨v, h1, h2⟩ := h; exact ⟨v, h1, h2 w' H⟩)
  refine VC_seq ?_
  refine VC_region ?_
  refine l_boxA rfl rfl ?_
  intro b1
  refine vl_v (q_assign rfl) rfl ?_
  refine vl_v (q_assign rfl) rfl ?_
  refine vl_nil ?_
  refine (th_n ?_)
  refine VC_seq ?_
  refine VC_seq ?_
  refine VC_region ?_
  refine vl_v (q_loads 0 Try.underlying25 rfl rfl rfl sz25 h0) rfl ?_
  refine vl_v (q_as (v := .bool true) (q_callV Try.func18 rfl rfl rfl (fun w1 H1 => hri w1)) (by rw [hr])) rfl ?_
  refine vl_v (q_not rfl) rfl ?_
  refine vl_nil ?_
  refine (th_n ?_)
  refine VC_no (rfl) ?_
  refine VC_skip ?_
  refine (th_n ?_)
  refine VC_seq ?_
  refine VC_region ?_
  refine l_litA (cs := bys []) Try.underlying26 in5 (by decide) rfl rfl rfl rfl (by first | (with_reducible first | exact bys_one _ | exact u32s_one _ | exact u64s_one _ | exact i64s_one _ | exact n64s_one _ | assumption) | exact bys_one _ | exact u32s_one _ | exact u64s_one _ | exact i64s_one _ | exact one_all rfl | (refine app_one ?_ ?_ <;> first | exact bys_one _ | exact one_all rfl | (simp; done))) rfl rfl ?_
  intro b8
  refine vl_v (q_fldA fo25_0 (by decide) rfl rfl) rfl ?_
  refine vl_v (q_slcA Try.underlying23 sz5 rfl rfl rfl rfl (.inl rfl) (by omega) (by omega) (by omega) (by omega) (by (try simp only [Nat.mul_one, Nat.zero_add, Nat.zero_mul, Nat.mul_zero, Nat.add_zero]) <;> rfl)) rfl ?_
  refine l_append 0 rfl rfl rfl Try.underlying26 Try.underlying26 in5 rfl (by decide) (Reads.take (Reads.blk 1 rfl) 32 g2) (by first | omega | with_reducible assumption | (simp only [zb, zu, zw, zi, n64s_length, za]; omega) | (simp only [zs, zr, zm, za, zb, zu, zw, zi, n64s_length, zt, zd, zc, zn, *] <;> first | done | omega) | rfl) (by first | (with_reducible first | exact bys_one _ | exact u32s_one _ | exact u64s_one _ | exact i64s_one _ | exact n64s_one _ | assumption) | exact bys_one _ | exact u32s_one _ | exact u64s_one _ | exact i64s_one _ | exact one_all rfl | (refine app_one ?_ ?_ <;> first | exact bys_one _ | exact one_all rfl | (simp; done))) (by first | omega | with_reducible assumption | (simp only [zb, zu, zw, zi, n64s_length, za]; omega) | (simp only [zs, zr, zm, za, zb, zu, zw, zi, n64s_length, zt, zd, zc, zn, *] <;> first | done | omega) | rfl) (by first | omega | with_reducible assumption | (simp only [zb, zu, zw, zi, n64s_length, za]; omega) | (simp only [zs, zr, zm, za, zb, zu, zw, zi, n64s_length, zt, zd, zc, zn, *] <;> first | done | omega) | rfl) rfl ?_
  intro A11 c11 hc11
  simp only [List.set_cons_zero, List.set_cons_succ, ← bys_append, ← u32s_append, ← u64s_append, ← i64s_append, List.nil_append, Nat.zero_add]
  refine vl_v (q_assign rfl) rfl ?_
  refine vl_nil ?_
  refine (th_n ?_)
  refine VC_seq ?_
  refine VC_region ?_
  refine vl_v (q_move rfl) rfl ?_
  refine vl_v (q_fldA fo25_1 (by decide) rfl rfl) rfl ?_
  refine vl_v (q_load 1 Try.underlying3 rfl rfl rfl g0) rfl ?_
  refine vl_v (q_conv_nw Try.underlying3 Try.underlying45 rfl (by omega)) rfl ?_
  refine l_callR Try.func19 rfl rfl rfl (fun w1 H1 => hu1 ▸ high_calls x 4 4 rfl (by omega) w1) rfl ?_
  intro A16 c16 hc16 hm16
  refine l_append 1 rfl rfl rfl Try.underlying26 Try.underlying26 in5 rfl (by decide) (Reads.row 0 rfl) (by first | omega | with_reducible assumption | (simp only [zb, zu, zw, zi, n64s_length, za]; omega) | (simp only [zs, zr, zm, za, zb, zu, zw, zi, n64s_length, zt, zd, zc, zn, *] <;> first | done | omega) | rfl) (by first | (with_reducible first | exact bys_one _ | exact u32s_one _ | exact u64s_one _ | exact i64s_one _ | exact n64s_one _ | assumption) | exact bys_one _ | exact u32s_one _ | exact u64s_one _ | exact i64s_one _ | exact one_all rfl | (refine app_one ?_ ?_ <;> first | exact bys_one _ | exact one_all rfl | (simp; done))) (by first | omega | with_reducible assumption | (simp only [zb, zu, zw, zi, n64s_length, za]; omega) | (simp only [zs, zr, zm, za, zb, zu, zw, zi, n64s_length, zt, zd, zc, zn, *] <;> first | done | omega) | rfl) (by first | omega | with_reducible assumption | (simp only [zb, zu, zw, zi, n64s_length, za]; omega) | (simp only [zs, zr, zm, za, zb, zu, zw, zi, n64s_length, zt, zd, zc, zn, *] <;> first | done | omega) | rfl) rfl ?_
  intro A17 c17 hc17
  simp only [List.set_cons_zero, List.set_cons_succ, ← bys_append, ← u32s_append, ← u64s_append, ← i64s_append, List.nil_append, Nat.zero_add]
  refine vl_v (q_assign rfl) rfl ?_
  refine vl_nil ?_
  refine (th_n ?_)
  refine VC_seq ?_
  refine VC_region ?_
  refine vl_v (q_move rfl) rfl ?_
  refine vl_v (q_fldA fo25_2 (by decide) rfl rfl) rfl ?_
  refine vl_v (q_load 2 Try.underlying3 rfl rfl rfl g1) rfl ?_
  refine vl_v (q_conv_nw Try.underlying3 Try.underlying45 rfl (by omega)) rfl ?_
  refine l_callR Try.func19 rfl rfl rfl (fun w1 H1 => hu2 ▸ high_calls y 4 4 rfl (by omega) w1) rfl ?_
  intro A22 c22 hc22 hm22
  refine l_append 2 rfl rfl rfl Try.underlying26 Try.underlying26 in5 rfl (by decide) (Reads.row 0 rfl) (by first | omega | with_reducible assumption | (simp only [zb, zu, zw, zi, n64s_length, za]; omega) | (simp only [zs, zr, zm, za, zb, zu, zw, zi, n64s_length, zt, zd, zc, zn, *] <;> first | done | omega) | rfl) (by first | (with_reducible first | exact bys_one _ | exact u32s_one _ | exact u64s_one _ | exact i64s_one _ | exact n64s_one _ | assumption) | exact bys_one _ | exact u32s_one _ | exact u64s_one _ | exact i64s_one _ | exact one_all rfl | (refine app_one ?_ ?_ <;> first | exact bys_one _ | exact one_all rfl | (simp; done))) (by first | omega | with_reducible assumption | (simp only [zb, zu, zw, zi, n64s_length, za]; omega) | (simp only [zs, zr, zm, za, zb, zu, zw, zi, n64s_length, zt, zd, zc, zn, *] <;> first | done | omega) | rfl) (by first | omega | with_reducible assumption | (simp only [zb, zu, zw, zi, n64s_length, za]; omega) | (simp only [zs, zr, zm, za, zb, zu, zw, zi, n64s_length, zt, zd, zc, zn, *] <;> first | done | omega) | rfl) rfl ?_
  intro A23 c23 hc23
  simp only [List.set_cons_zero, List.set_cons_succ, ← bys_append, ← u32s_append, ← u64s_append, ← i64s_append, List.nil_append, Nat.zero_add]
  refine vl_v (q_assign rfl) rfl ?_
  refine vl_v (q_assign rfl) rfl ?_
  refine vl_nil ?_
  refine (th_n ?_)
  refine VC_ret ?_
  refine ⟨_, res2 rfl rfl rfl, ?_⟩
  exact ⟨_, rfl, fun w' H => by simpa [bys_append, List.append_assoc] using H.pick (ks := [2]) (by decide) rfl⟩
theorem hbytes_bad (pub : List UInt8) (p q : Int) (hp : pub.length = 32) (hr : rightB p q = false) (w : World) :
    Calls Try.prog 9 #[.agg (headC pub p q).toArray] w fun e w' => e = .returned (.tuple #[.slice none 0 0, vN 1]) ∧ Kept [] w w' := by
  have h0 := headC_length hp p q
  have hri := hright_calls pub p q hp
  obtain ⟨c, hc⟩ : ∃ c, headC pub p q = c := ⟨_, rfl⟩
  rw [hc] at h0 hri ⊢
  refine enter (n := 24) (R := fun e L => e = .returned (.tuple #[.slice none 0 0, vN 1])) [.agg c.toArray] Try.func9 rfl rfl rfl (St.refl w) ?_ (fun e w' L' h H => ⟨h, H.kept⟩)
  refine VC_seq ?_
  refine VC_region ?_
  refine l_boxA rfl rfl ?_
  intro b1
  refine vl_v (q_assign rfl) rfl ?_
  refine vl_v (q_assign rfl) rfl ?_
  refine vl_nil ?_
  refine (th_n ?_)
  refine VC_seq ?_
  refine VC_seq ?_
  refine VC_region ?_
  refine vl_v (q_loads 0 Try.underlying25 rfl rfl rfl sz25 h0) rfl ?_
  refine vl_v (q_as (v := .bool false) (q_callV Try.func18 rfl rfl rfl (fun w1 H1 => hri w1)) (by rw [hr])) rfl ?_
  refine vl_v (q_not rfl) rfl ?_
  refine vl_nil ?_
  refine (th_n ?_)
  refine VC_yes (rfl) ?_
  refine VC_seq ?_
  refine VC_region ?_
  refine vl_v (q_assign rfl) rfl ?_
  refine vl_v (q_assign rfl) rfl ?_
  refine vl_nil ?_
  refine (th_n ?_)
  refine VC_ret ?_
  refine (th_r ?_)
  refine ⟨_, res2 rfl rfl rfl, ?_⟩
  exact rfl
theorem rright_calls (pub : List UInt8) (p q : Int) (hp : pub.length = 32) (w : World) :
    Calls Try.prog 20 #[.agg (headC pub p q).toArray] w fun e w' => e = .returned (.bool (rightB p q)) ∧ Kept [] w w' := by
  have h0 := headC_length hp p q
  have g0 := headC_at32 hp p q
  have g1 := headC_at33 hp p q
  obtain ⟨c, hc⟩ : ∃ c, headC pub p q = c := ⟨_, rfl⟩
  rw [hc] at h0 g0 g1 ⊢
  have hr : rightB p q = decide (0 ≤ p ∧ p ≤ 1000000 ∧ 0 ≤ q ∧ q ≤ 1000000) := by
    rw [Bool.eq_iff_iff, rightB_iff, decide_eq_true_iff]
  refine enter (n := 21) (R := fun e L => e = .returned (.bool (rightB p q))) [.agg c.toArray] Try.func20 rfl rfl rfl (St.refl w) ?_ (fun e w' L' h H => ⟨h, H.kept⟩)
  refine VC_seq ?_
  refine VC_region ?_
  refine l_boxA rfl rfl ?_
  intro b1
  refine vl_v (q_assign rfl) rfl ?_
  refine vl_nil ?_
  refine (th_n ?_)
  refine VC_seq ?_
  refine VC_region ?_
  refine vl_v (q_fldA fo25_1 (by decide) rfl rfl) rfl ?_
  refine vl_v (q_load 0 Try.underlying3 rfl rfl rfl g0) rfl ?_
  refine vl_v (q_geq_k Try.underlying3 rfl rfl) rfl ?_
  by_cases hs5 : 0 ≤ p
  · skip
    rw [show decide (0 ≤ p) = true from decide_eq_true hs5]
    refine vl_v (q_move rfl) rfl ?_
    refine vl_vg rfl (q_fldA fo25_1 (by decide) rfl rfl) rfl ?_
    refine vl_vg rfl (q_load 0 Try.underlying3 rfl rfl rfl g0) rfl ?_
    refine vl_vg rfl (q_leq_k Try.underlying3 rfl rfl) rfl ?_
    by_cases hs9 : p ≤ 1000000
    · skip
      rw [show decide (p ≤ 1000000) = true from decide_eq_true hs9]
      first | (refine vl_v (q_pickT rfl rfl) rfl ?_) | (refine vl_v (q_pickF rfl rfl) rfl ?_)
      refine vl_v (q_move rfl) rfl ?_
      refine vl_vg rfl (q_fldA fo25_2 (by decide) rfl rfl) rfl ?_
      refine vl_vg rfl (q_load 0 Try.underlying3 rfl rfl rfl g1) rfl ?_
      refine vl_vg rfl (q_geq_k Try.underlying3 rfl rfl) rfl ?_
      by_cases hs14 : 0 ≤ q
      · skip
        rw [show decide (0 ≤ q) = true from decide_eq_true hs14]
        first | (refine vl_v (q_pickT rfl rfl) rfl ?_) | (refine vl_v (q_pickF rfl rfl) rfl ?_)
        refine vl_v (q_move rfl) rfl ?_
        refine vl_vg rfl (q_fldA fo25_2 (by decide) rfl rfl) rfl ?_
        refine vl_vg rfl (q_load 0 Try.underlying3 rfl rfl rfl g1) rfl ?_
        refine vl_vg rfl (q_leq_k Try.underlying3 rfl rfl) rfl ?_
        first | (refine vl_v (q_pickT rfl rfl) rfl ?_) | (refine vl_v (q_pickF rfl rfl) rfl ?_)
        refine vl_v (q_assign rfl) rfl ?_
        refine vl_nil ?_
        refine (th_n ?_)
        refine VC_ret ?_
        refine ⟨_, res1 rfl rfl, ?_⟩
        exact congrArg (fun b => Ending.returned (Value.bool b)) (by rw [hr, Bool.eq_iff_iff]; simp only [decide_eq_true_iff, Bool.false_eq_true]; first | omega | (constructor <;> intro h <;> first | exact h.elim | omega | (exfalso; omega)))
      · skip
        rw [show decide (0 ≤ q) = false from decide_eq_false hs14]
        first | (refine vl_v (q_pickT rfl rfl) rfl ?_) | (refine vl_v (q_pickF rfl rfl) rfl ?_)
        refine vl_v (q_move rfl) rfl ?_
        refine vl_skip rfl rfl ?_
        refine vl_skip rfl rfl ?_
        refine vl_skip rfl rfl ?_
        first | (refine vl_v (q_pickT rfl rfl) rfl ?_) | (refine vl_v (q_pickF rfl rfl) rfl ?_)
        refine vl_v (q_assign rfl) rfl ?_
        refine vl_nil ?_
        refine (th_n ?_)
        refine VC_ret ?_
        refine ⟨_, res1 rfl rfl, ?_⟩
        exact congrArg (fun b => Ending.returned (Value.bool b)) (by rw [hr, Bool.eq_iff_iff]; simp only [decide_eq_true_iff, Bool.false_eq_true]; first | omega | (constructor <;> intro h <;> first | exact h.elim | omega | (exfalso; omega)))
    · skip
      rw [show decide (p ≤ 1000000) = false from decide_eq_false hs9]
      first | (refine vl_v (q_pickT rfl rfl) rfl ?_) | (refine vl_v (q_pickF rfl rfl) rfl ?_)
      refine vl_v (q_move rfl) rfl ?_
      refine vl_skip rfl rfl ?_
      refine vl_skip rfl rfl ?_
      refine vl_skip rfl rfl ?_
      first | (refine vl_v (q_pickT rfl rfl) rfl ?_) | (refine vl_v (q_pickF rfl rfl) rfl ?_)
      refine vl_v (q_move rfl) rfl ?_
      refine vl_skip rfl rfl ?_
      refine vl_skip rfl rfl ?_
      refine vl_skip rfl rfl ?_
      first | (refine vl_v (q_pickT rfl rfl) rfl ?_) | (refine vl_v (q_pickF rfl rfl) rfl ?_)
      refine vl_v (q_assign rfl) rfl ?_
      refine vl_nil ?_
      refine (th_n ?_)
      refine VC_ret ?_
      refine ⟨_, res1 rfl rfl, ?_⟩
      exact congrArg (fun b => Ending.returned (Value.bool b)) (by rw [hr, Bool.eq_iff_iff]; simp only [decide_eq_true_iff, Bool.false_eq_true]; first | omega | (constructor <;> intro h <;> first | exact h.elim | omega | (exfalso; omega)))
  · skip
    rw [show decide (0 ≤ p) = false from decide_eq_false hs5]
    refine vl_v (q_move rfl) rfl ?_
    refine vl_skip rfl rfl ?_
    refine vl_skip rfl rfl ?_
    refine vl_skip rfl rfl ?_
    first | (refine vl_v (q_pickT rfl rfl) rfl ?_) | (refine vl_v (q_pickF rfl rfl) rfl ?_)
    refine vl_v (q_move rfl) rfl ?_
    refine vl_skip rfl rfl ?_
    refine vl_skip rfl rfl ?_
    refine vl_skip rfl rfl ?_
    first | (refine vl_v (q_pickT rfl rfl) rfl ?_) | (refine vl_v (q_pickF rfl rfl) rfl ?_)
    refine vl_v (q_move rfl) rfl ?_
    refine vl_skip rfl rfl ?_
    refine vl_skip rfl rfl ?_
    refine vl_skip rfl rfl ?_
    first | (refine vl_v (q_pickT rfl rfl) rfl ?_) | (refine vl_v (q_pickF rfl rfl) rfl ?_)
    refine vl_v (q_assign rfl) rfl ?_
    refine vl_nil ?_
    refine (th_n ?_)
    refine VC_ret ?_
    refine ⟨_, res1 rfl rfl, ?_⟩
    exact congrArg (fun b => Ending.returned (Value.bool b)) (by rw [hr, Bool.eq_iff_iff]; simp only [decide_eq_true_iff, Bool.false_eq_true]; first | omega | (constructor <;> intro h <;> first | exact h.elim | omega | (exfalso; omega)))
theorem rbytes_bad (pub : List UInt8) (p q : Int) (hp : pub.length = 32) (hr : rightB p q = false) (w : World) :
    Calls Try.prog 10 #[.agg (headC pub p q).toArray] w fun e w' => e = .returned (.tuple #[.slice none 0 0, vN 1]) ∧ Kept [] w w' := by
  have h0 := headC_length hp p q
  have hri := rright_calls pub p q hp
  obtain ⟨c, hc⟩ : ∃ c, headC pub p q = c := ⟨_, rfl⟩
  rw [hc] at h0 hri ⊢
  refine enter (n := 24) (R := fun e L => e = .returned (.tuple #[.slice none 0 0, vN 1])) [.agg c.toArray] Try.func10 rfl rfl rfl (St.refl w) ?_ (fun e w' L' h H => ⟨h, H.kept⟩)
  refine VC_seq ?_
  refine VC_region ?_
  refine l_boxA rfl rfl ?_
  intro b1
  refine vl_v (q_assign rfl) rfl ?_
  refine vl_v (q_assign rfl) rfl ?_
  refine vl_nil ?_
  refine (th_n ?_)
  refine VC_seq ?_
  refine VC_seq ?_
  refine VC_region ?_
  refine vl_v (q_loads 0 Try.underlying25 rfl rfl rfl sz25 h0) rfl ?_
  refine vl_v (q_as (v := .bool false) (q_callV Try.func20 rfl rfl rfl (fun w1 H1 => hri w1)) (by rw [hr])) rfl ?_
  refine vl_v (q_not rfl) rfl ?_
  refine vl_nil ?_
  refine (th_n ?_)
  refine VC_yes (rfl) ?_
  refine VC_seq ?_
  refine VC_region ?_
  refine vl_v (q_assign rfl) rfl ?_
  refine vl_v (q_assign rfl) rfl ?_
  refine vl_nil ?_
  refine (th_n ?_)
  refine VC_ret ?_
  refine (th_r ?_)
  refine ⟨_, res2 rfl rfl rfl, ?_⟩
  exact rfl
theorem rbytes_ok (pub : List UInt8) (x y : Nat) (hp : pub.length = 32) (hx : x ≤ 1000000) (hy : y ≤ 1000000) (w : World) :
    Calls Try.prog 10 #[.agg (headC pub x y).toArray] w fun e w' => ∃ v, e = .returned (.tuple #[v, vN 0]) ∧ St [] w [.row 5 1 v 40 (bys (headB pub x y))] w' := by
  have h0 := headC_length hp x y
  have g0 := headC_at32 hp x y
  have g1 := headC_at33 hp x y
  have g2 := headC_pub hp x y
  have hr : rightB x y = true := rightB_iff.2 (by omega)
  have hri := rright_calls pub x y hp
  have l1 := highB_length x 4
  have l2 := highB_length y 4
  have hb : headB pub x y = pub ++ highB x 4 ++ highB y 4 := rfl
  rw [hb]
  obtain ⟨u1, hu1⟩ : ∃ u, highB x 4 = u := ⟨_, rfl⟩
  obtain ⟨u2, hu2⟩ : ∃ u, highB y 4 = u := ⟨_, rfl⟩
  obtain ⟨c, hc⟩ : ∃ c, headC pub x y = c := ⟨_, rfl⟩
  rw [hc] at h0 g0 g1 g2 hri ⊢
  rw [hu1] at l1
  rw [hu2] at l2
  rw [hu1, hu2]
  refine enter (n := 24) (R := rowTo w 40 (pub ++ u1 ++ u2) (vN 0)) [.agg c.toArray] Try.func10 rfl rfl rfl (St.refl w) ?_ (fun e w' L' h H => by obtain ⟨v, h1, h2⟩ := h; exact ⟨v, h1, h2 w' H⟩)
  refine VC_seq ?_
  refine VC_region ?_
  refine l_boxA rfl rfl ?_
  intro b1
  refine vl_v (q_assign rfl) rfl ?_
  refine vl_v (q_assign rfl) rfl ?_
  refine vl_nil ?_
  refine (th_n ?_)
  refine VC_seq ?_
  refine VC_seq ?_
  refine VC_region ?_
  refine vl_v (q_loads 0 Try.underlying25 rfl rfl rfl sz25 h0) rfl ?_
  refine vl_v (q_as (v := .bool true) (q_callV Try.func20 rfl rfl rfl (fun w1 H1 => hri w1)) (by rw [hr])) rfl ?_
  refine vl_v (q_not rfl) rfl ?_
  refine vl_nil ?_
  refine (th_n ?_)
  refine VC_no (rfl) ?_
  refine VC_skip ?_
  refine (th_n ?_)
  refine VC_seq ?_
  refine VC_region ?_
  refine l_litA (cs := bys []) Try.underlying26 in5 (by decide) rfl rfl rfl rfl (by first | (with_reducible first | exact bys_one _ | exact u32s_one _ | exact u64s_one _ | exact i64s_one _ | exact n64s_one _ | assumption) | exact bys_one _ | exact u32s_one _ | exact u64s_one _ | exact i64s_one _ | exact one_all rfl | (refine app_one ?_ ?_ <;> first | exact bys_one _ | exact one_all rfl | (simp; done))) rfl rfl ?_
  intro b8
  refine vl_v (q_fldA fo25_0 (by decide) rfl rfl) rfl ?_
  refine vl_v (q_slcA Try.underlying23 sz5 rfl rfl rfl rfl (.inl rfl) (by omega) (by omega) (by omega) (by omega) (by (try simp only [Nat.mul_one, Nat.zero_add, Nat.zero_mul, Nat.mul_zero, Nat.add_zero]) <;> rfl)) rfl ?_
  refine l_append 0 rfl rfl rfl Try.underlying26 Try.underlying26 in5 rfl (by decide) (Reads.take (Reads.blk 1 rfl) 32 g2) (by first | omega | with_reducible assumption | (simp only [zb, zu, zw, zi, n64s_length, za]; omega) | (simp only [zs, zr, zm, za, zb, zu, zw, zi, n64s_length, zt, zd, zc, zn, *] <;> first | done | omega) | rfl) (by first | (with_reducible first | exact bys_one _ | exact u32s_one _ | exact u64s_one _ | exact i64s_one _ | exact n64s_one _ | assumption) | exact bys_one _ | exact u32s_one _ | exact u64s_one _ | exact i64s_one _ | exact one_all rfl | (refine app_one ?_ ?_ <;> first | exact bys_one _ | exact one_all rfl | (simp; done))) (by first | omega | with_reducible assumption | (simp only [zb, zu, zw, zi, n64s_length, za]; omega) | (simp only [zs, zr, zm, za, zb, zu, zw, zi, n64s_length, zt, zd, zc, zn, *] <;> first | done | omega) | rfl) (by first | omega | with_reducible assumption | (simp only [zb, zu, zw, zi, n64s_length, za]; omega) | (simp only [zs, zr, zm, za, zb, zu, zw, zi, n64s_length, zt, zd, zc, zn, *] <;> first | done | omega) | rfl) rfl ?_
  intro A11 c11 hc11
  simp only [List.set_cons_zero, List.set_cons_succ, ← bys_append, ← u32s_append, ← u64s_append, ← i64s_append, List.nil_append, Nat.zero_add]
  refine vl_v (q_assign rfl) rfl ?_
  refine vl_nil ?_
  refine (th_n ?_)
  refine VC_seq ?_
  refine VC_region ?_
  refine vl_v (q_move rfl) rfl ?_
  refine vl_v (q_fldA fo25_1 (by decide) rfl rfl) rfl ?_
  refine vl_v (q_load 1 Try.underlying3 rfl rfl rfl g0) rfl ?_
  refine vl_v (q_conv_nw Try.underlying3 Try.underlying45 rfl (by omega)) rfl ?_
  refine l_callR Try.func21 rfl rfl rfl (fun w1 H1 => hu1 ▸ rhigh_calls x 4 4 rfl (by omega) (by omega) w1) rfl ?_
  intro A16 c16 hc16 hm16
  refine l_append 1 rfl rfl rfl Try.underlying26 Try.underlying26 in5 rfl (by decide) (Reads.row 0 rfl) (by first | omega | with_reducible assumption | (simp only [zb, zu, zw, zi, n64s_length, za]; omega) | (simp only [zs, zr, zm, za, zb, zu, zw, zi, n64s_length, zt, zd, zc, zn, *] <;> first | done | omega) | rfl) (by first | (with_reducible first | exact bys_one _ | exact u32s_one _ | exact u64s_one _ | exact i64s_one _ | exact n64s_one _ | assumption) | exact bys_one _ | exact u32s_one _ | exact u64s_one _ | exact i64s_one _ | exact one_all rfl | (refine app_one ?_ ?_ <;> first | exact bys_one _ | exact one_all rfl | (simp; done))) (by first | omega | with_reducible assumption | (simp only [zb, zu, zw, zi, n64s_length, za]; omega) | (simp only [zs, zr, zm, za, zb, zu, zw, zi, n64s_length, zt, zd, zc, zn, *] <;> first | done | omega) | rfl) (by first | omega | with_reducible assumption | (simp only [zb, zu, zw, zi, n64s_length, za]; omega) | (simp only [zs, zr, zm, za, zb, zu, zw, zi, n64s_length, zt, zd, zc, zn, *] <;> first | done | omega) | rfl) rfl ?_
  intro A17 c17 hc17
  simp only [List.set_cons_zero, List.set_cons_succ, ← bys_append, ← u32s_append, ← u64s_append, ← i64s_append, List.nil_append, Nat.zero_add]
  refine vl_v (q_assign rfl) rfl ?_
  refine vl_nil ?_
  refine (th_n ?_)
  refine VC_seq ?_
  refine VC_region ?_
  refine vl_v (q_move rfl) rfl ?_
  refine vl_v (q_fldA fo25_2 (by decide) rfl rfl) rfl ?_
  refine vl_v (q_load 2 Try.underlying3 rfl rfl rfl g1) rfl ?_
  refine vl_v (q_conv_nw Try.underlying3 Try.underlying45 rfl (by omega)) rfl ?_
  refine l_callR Try.func21 rfl rfl rfl (fun w1 H1 => hu2 ▸ rhigh_calls y 4 4 rfl (by omega) (by omega) w1) rfl ?_
  intro A22 c22 hc22 hm22
  refine l_append 2 rfl rfl rfl Try.underlying26 Try.underlying26 in5 rfl (by decide) (Reads.row 0 rfl) (by first | omega | with_reducible assumption | (simp only [zb, zu, zw, zi, n64s_length, za]; omega) | (simp only [zs, zr, zm, za, zb, zu, zw, zi, n64s_length, zt, zd, zc, zn, *] <;> first | done | omega) | rfl) (by first | (with_reducible first | exact bys_one _ | exact u32s_one _ | exact u64s_one _ | exact i64s_one _ | exact n64s_one _ | assumption) | exact bys_one _ | exact u32s_one _ | exact u64s_one _ | exact i64s_one _ | exact one_all rfl | (refine app_one ?_ ?_ <;> first | exact bys_one _ | exact one_all rfl | (simp; done))) (by first | omega | with_reducible assumption | (simp only [zb, zu, zw, zi, n64s_length, za]; omega) | (simp only [zs, zr, zm, za, zb, zu, zw, zi, n64s_length, zt, zd, zc, zn, *] <;> first | done | omega) | rfl) (by first | omega | with_reducible assumption | (simp only [zb, zu, zw, zi, n64s_length, za]; omega) | (simp only [zs, zr, zm, za, zb, zu, zw, zi, n64s_length, zt, zd, zc, zn, *] <;> first | done | omega) | rfl) rfl ?_
  intro A23 c23 hc23
  simp only [List.set_cons_zero, List.set_cons_succ, ← bys_append, ← u32s_append, ← u64s_append, ← i64s_append, List.nil_append, Nat.zero_add]
  refine vl_v (q_assign rfl) rfl ?_
  refine vl_v (q_assign rfl) rfl ?_
  refine vl_nil ?_
  refine (th_n ?_)
  refine VC_ret ?_
  refine ⟨_, res2 rfl rfl rfl, ?_⟩
  exact ⟨_, rfl, fun w' H => by simpa [bys_append, List.append_assoc] using H.pick (ks := [2]) (by decide) rfl⟩
end Go.Proofs.Ytpjjledbmfmbiaa
