/- What the functions of package head and the document's do: an envelope's bytes. Conditions: lengths that memory bears. -/
import Derived.Test.YtpjjledbmfmbiaaC12g
namespace Go.Proofs.Ytpjjledbmfmbiaa
open Go.RowKit Go.PBYtpjjledbmfmbiaa
set_option linter.unusedVariables false
set_option linter.unusedSimpArgs false
set_option maxRecDepth 10000

theorem henv_bad (f t : Int) (cm pub : List UInt8) (p q : Int) (n cB : Nat) (B : Option Addr) (hc : cm.length = 32) (hp : pub.length = 32) (hr : rightEB f t p q n = false) (w : World) :
    Calls Try.prog 13 #[.agg (envC f t cm pub p q (.slice B n cB)).toArray] w fun e w' => e = .returned (.tuple #[.slice none 0 0, vN 1]) ∧ Kept [] w w' := by
  have hF := envC_f (f := f) (t := t) (p := p) (q := q) (sl := .slice B n cB) hc hp
  have hE := hrightE_calls f t cm pub p q n cB B hc hp
  rw [hr] at hE
  obtain ⟨c, hcc⟩ : ∃ c, envC f t cm pub p q (.slice B n cB) = c := ⟨_, rfl⟩
  rw [hcc] at hF hE ⊢
  have h0 := hF.len
  refine enter (n := 40) (R := fun e L => e = .returned (.tuple #[.slice none 0 0, vN 1])) [.agg c.toArray] Try.func13 rfl rfl rfl (St.refl w) ?_ (fun e w' L' h H => ⟨h, H.kept⟩)
  refine VC_seq ?_
  refine VC_region ?_
  refine l_boxA rfl rfl ?_
  intro b1
  refine vl_v (q_assign rfl) rfl ?_
  refine vl_v (q_assign rfl) rfl ?_
  refine vl_nil ?_
  refine (th_n ?_)
  refine VC_seq ?_
  refine VC_seq ?_
  refine VC_region ?_
  refine vl_v (q_loads 0 Try.underlying35 rfl rfl rfl sz35 h0) rfl ?_
  refine vl_v (q_callV Try.func27 rfl rfl rfl (fun w1 H1 => hE w1)) rfl ?_
  refine vl_v (q_not rfl) rfl ?_
  refine vl_nil ?_
  refine (th_n ?_)
  refine VC_yes (rfl) ?_
  refine VC_seq ?_
  refine VC_region ?_
  refine vl_v (q_assign rfl) rfl ?_
  refine vl_v (q_assign rfl) rfl ?_
  refine vl_nil ?_
  refine (th_n ?_)
  refine VC_ret ?_
  refine (th_r ?_)
  refine ⟨_, res2 rfl rfl rfl, ?_⟩
  exact rfl
theorem renv_bad (f t : Int) (cm pub : List UInt8) (p q : Int) (n cB : Nat) (B : Option Addr) (hc : cm.length = 32) (hp : pub.length = 32) (hr : rightEB f t p q n = false) (w : World) :
    Calls Try.prog 14 #[.agg (envC f t cm pub p q (.slice B n cB)).toArray] w fun e w' => e = .returned (.tuple #[.slice none 0 0, vN 1]) ∧ Kept [] w w' := by
  have hF := envC_f (f := f) (t := t) (p := p) (q := q) (sl := .slice B n cB) hc hp
  have hE := rrightE_calls f t cm pub p q n cB B hc hp
  rw [hr] at hE
  obtain ⟨c, hcc⟩ : ∃ c, envC f t cm pub p q (.slice B n cB) = c := ⟨_, rfl⟩
  rw [hcc] at hF hE ⊢
  have h0 := hF.len
  refine enter (n := 40) (R := fun e L => e = .returned (.tuple #[.slice none 0 0, vN 1])) [.agg c.toArray] Try.func14 rfl rfl rfl (St.refl w) ?_ (fun e w' L' h H => ⟨h, H.kept⟩)
  refine VC_seq ?_
  refine VC_region ?_
  refine l_boxA rfl rfl ?_
  intro b1
  refine vl_v (q_assign rfl) rfl ?_
  refine vl_v (q_assign rfl) rfl ?_
  refine vl_nil ?_
  refine (th_n ?_)
  refine VC_seq ?_
  refine VC_seq ?_
  refine VC_region ?_
  refine vl_v (q_loads 0 Try.underlying35 rfl rfl rfl sz35 h0) rfl ?_
  refine vl_v (q_callV Try.func28 rfl rfl rfl (fun w1 H1 => hE w1)) rfl ?_
  refine vl_v (q_not rfl) rfl ?_
  refine vl_nil ?_
  refine (th_n ?_)
  refine VC_yes (rfl) ?_
  refine VC_seq ?_
  refine VC_region ?_
  refine vl_v (q_assign rfl) rfl ?_
  refine vl_v (q_assign rfl) rfl ?_
  refine vl_nil ?_
  refine (th_n ?_)
  refine VC_ret ?_
  refine (th_r ?_)
  refine ⟨_, res2 rfl rfl rfl, ?_⟩
  exact rfl
theorem henv_ok (f t : Nat) (cm pub : List UInt8) (x y : Nat) (body : List UInt8) (n cB : Nat) (B : Option Addr) (hn : n = body.length) (hc : cm.length = 32) (hp : pub.length = 32) (hr : rightEB f t x y n = true) (w : World) (hB : SlAt w B (bys body)) :
    Calls Try.prog 13 #[.agg (envC f t cm pub x y (.slice B n cB)).toArray] w fun e w' => ∃ v, e = .returned (.tuple #[v, vN 0]) ∧ St [] w [.row 5 1 v (76 + n) (bys (envB f t cm pub x y body))] w' := by
  have hF := envC_f (f := (f : Int)) (t := (t : Int)) (p := (x : Int)) (q := (y : Int)) (sl := .slice B n cB) hc hp
  have hE := hrightE_calls f t cm pub x y n cB B hc hp
  rw [hr] at hE
  obtain ⟨c, hcc⟩ : ∃ c, envC f t cm pub x y (.slice B n cB) = c := ⟨_, rfl⟩
  rw [hcc] at hF hE ⊢
  obtain ⟨h0, g0, g1, g2, g3, g4⟩ := hF
  have hh := headC_length hp x y
  obtain ⟨h1, h2, h3⟩ := rightEB_iff.1 hr
  have h4 := rightB_iff.1 h2
  have hby := fun w => hbytes_ok pub x y hp (by omega) (by omega) w
  have l1 := headB_length hp x y
  have l2 := highB_length n 2
  have hb : envB f t cm pub x y body = [UInt8.ofNat f, UInt8.ofNat t] ++ cm ++ headB pub x y ++ highB n 2 ++ body := by rw [hn]; rfl
  rw [hb]
  obtain ⟨hB8, eh⟩ : ∃ u, headB pub x y = u := ⟨_, rfl⟩
  obtain ⟨u2, eu⟩ : ∃ u, highB n 2 = u := ⟨_, rfl⟩
  obtain ⟨a0, ea0⟩ : ∃ u, UInt8.ofNat f = u := ⟨_, rfl⟩
  obtain ⟨a1, ea1⟩ : ∃ u, UInt8.ofNat t = u := ⟨_, rfl⟩
  rw [eh] at l1 hby ⊢
  rw [eu] at l2 ⊢
  rw [ea0, ea1]
  have lb : (bys body).length = n := by simp [bys, hn]
  refine enter (n := 40) (R := rowTo w (76 + n) ([a0, a1] ++ cm ++ hB8 ++ u2 ++ body) (vN 0)) [.agg c.toArray] Try.func13 rfl rfl rfl (St.refl w) ?_ (fun e w' L' h H => by obtain ⟨v, h1, h2⟩ := h; exact ⟨v, h1, h2 w' H⟩)
  refine VC_seq ?_
  refine VC_region ?_
  refine l_boxA rfl rfl ?_
  intro b1
  refine vl_v (q_assign rfl) rfl ?_
  refine vl_v (q_assign rfl) rfl ?_
  refine vl_nil ?_
  refine (th_n ?_)
  refine VC_seq ?_
  refine VC_seq ?_
  refine VC_region ?_
  refine vl_v (q_loads 0 Try.underlying35 rfl rfl rfl sz35 h0) rfl ?_
  refine vl_v (q_callV Try.func27 rfl rfl rfl (fun w1 H1 => hE w1)) rfl ?_
  refine vl_v (q_not rfl) rfl ?_
  refine vl_nil ?_
  refine (th_n ?_)
  refine VC_no (rfl) ?_
  refine VC_skip ?_
  refine (th_n ?_)
  refine VC_seq ?_
  refine VC_drawM 9 [[], [0], [1], [], [3], [4], [2, 5], [], [7], [6, 8], [9, 0, 1, 2, 3, 4, 5, 6, 7, 8]] [[], [0], [0, 1], [], [3], [3, 4], [0, 1, 2, 3, 4, 5], [], [7], [0, 1, 2, 3, 4, 5, 6, 7, 8], [0, 1, 2, 3, 4, 5, 6, 7, 8, 9]] rfl (by kernel_rfl) ?_
  refine qm_v (fun xs hx => q_fldA fo35_0 (by decide) rfl rfl) ?_
  refine qm_v (fun xs hx => q_load 0 Try.underlying3 rfl rfl rfl g0) ?_
  refine qm_v (fun xs hx => q_as (v := vU8 a0) (q_conv_nu8 Try.underlying3 Try.underlying5 rfl) (by rw [ea0])) ?_
  refine qm_v (fun xs hx => q_fldA fo35_1 (by decide) rfl rfl) ?_
  refine qm_v (fun xs hx => q_load 0 Try.underlying3 rfl rfl rfl g1) ?_
  refine qm_v (fun xs hx => q_as (v := vU8 a1) (q_conv_nu8 Try.underlying3 Try.underlying5 rfl) (by rw [ea1])) ?_
  refine qm_a (fun xs hx => q_litA (cs := bys [a0, a1]) Try.underlying26 in5 (by decide) rfl rfl rfl rfl (one_all rfl) rfl) ?_
  refine qm_v (fun xs hx => q_fldA fo35_2 (by decide) rfl rfl) ?_
  refine qm_v (fun xs hx => q_slcA Try.underlying23 sz5 rfl rfl rfl rfl (.inl rfl) (by omega) (by omega) (by omega) (by omega) (by (try simp only [Nat.mul_one, Nat.zero_add, Nat.zero_mul, Nat.mul_zero, Nat.add_zero]) <;> rfl)) ?_
  refine qm_end ?_
  intro xs hx
  obtain ⟨⟨b16, e16⟩, _⟩ := hx
  simp only [e16]
  simp only [resT, nRow, nBlk, nRowT, tupAt_0, List.append_assoc, List.nil_append, List.append_nil, List.cons_append, List.singleton_append, e16]
  refine VL.keep (Sub.cons (s := 0) rfl (Sub.cons (s := 1) rfl (Sub.cons (s := 2) rfl (Sub.cons (s := 3) rfl (Sub.cons (s := 9) rfl (Sub.cons (s := 16) rfl (Sub.cons (s := 18) rfl (Sub.nil _)))))))) ?_
  refine l_append 0 rfl rfl rfl Try.underlying26 Try.underlying26 in5 rfl (by decide) (Reads.blkTake 1 2 32 rfl g2) (by first | omega | with_reducible assumption | (simp only [zb, zu, zw, zi, n64s_length, za]; omega) | (simp only [zs, zr, zm, za, zb, zu, zw, zi, n64s_length, zt, zd, zc, zn, *] <;> first | done | omega) | rfl) (by first | (with_reducible first | exact bys_one _ | exact u32s_one _ | exact u64s_one _ | exact i64s_one _ | exact n64s_one _ | assumption) | exact bys_one _ | exact u32s_one _ | exact u64s_one _ | exact i64s_one _ | exact one_all rfl | (refine app_one ?_ ?_ <;> first | exact bys_one _ | exact one_all rfl | (simp; done))) (by first | omega | with_reducible assumption | (simp only [zb, zu, zw, zi, n64s_length, za]; omega) | (simp only [zs, zr, zm, za, zb, zu, zw, zi, n64s_length, zt, zd, zc, zn, *] <;> first | done | omega) | rfl) (by first | omega | with_reducible assumption | (simp only [zb, zu, zw, zi, n64s_length, za]; omega) | (simp only [zs, zr, zm, za, zb, zu, zw, zi, n64s_length, zt, zd, zc, zn, *] <;> first | done | omega) | rfl) rfl ?_
  intro A19 c19 hc19
  simp only [List.set_cons_zero, List.set_cons_succ, ← bys_append, ← u32s_append, ← u64s_append, ← i64s_append, List.nil_append, Nat.zero_add]
  refine vl_v (q_assign rfl) rfl ?_
  refine vl_nil ?_
  refine (qn_n (th_n ?_))
  refine VC_seq ?_
  refine VC_region ?_
  refine vl_v (q_fldA fo35_3 (by decide) rfl rfl) rfl ?_
  refine vl_v (q_loadsAt 1 Try.underlying25 rfl rfl rfl sz25 g3 hh) rfl ?_
  refine l_callT Try.func9 rfl rfl rfl (fun w1 H1 => hby w1) rfl ?_
  intro A23 c23 hc23 hm23
  refine vl_v (q_move rfl) rfl ?_
  refine vl_v (q_ext rfl rfl) rfl ?_
  refine vl_v (q_ext rfl rfl) rfl ?_
  refine vl_v (q_assign rfl) rfl ?_
  refine vl_v (q_assign rfl) rfl ?_
  refine vl_nil ?_
  refine (th_n ?_)
  refine VC_seq ?_
  refine VC_region ?_
  refine vl_v (q_move rfl) rfl ?_
  refine vl_v (q_move rfl) rfl ?_
  refine l_append 1 rfl rfl rfl Try.underlying26 Try.underlying26 in5 rfl (by decide) (Reads.row 0 rfl) (by first | omega | with_reducible assumption | (simp only [zb, zu, zw, zi, n64s_length, za]; omega) | (simp only [zs, zr, zm, za, zb, zu, zw, zi, n64s_length, zt, zd, zc, zn, *] <;> first | done | omega) | rfl) (by first | (with_reducible first | exact bys_one _ | exact u32s_one _ | exact u64s_one _ | exact i64s_one _ | exact n64s_one _ | assumption) | exact bys_one _ | exact u32s_one _ | exact u64s_one _ | exact i64s_one _ | exact one_all rfl | (refine app_one ?_ ?_ <;> first | exact bys_one _ | exact one_all rfl | (simp; done))) (by first | omega | with_reducible assumption | (simp only [zb, zu, zw, zi, n64s_length, za]; omega) | (simp only [zs, zr, zm, za, zb, zu, zw, zi, n64s_length, zt, zd, zc, zn, *] <;> first | done | omega) | rfl) (by first | omega | with_reducible assumption | (simp only [zb, zu, zw, zi, n64s_length, za]; omega) | (simp only [zs, zr, zm, za, zb, zu, zw, zi, n64s_length, zt, zd, zc, zn, *] <;> first | done | omega) | rfl) rfl ?_
  intro A28 c28 hc28
  simp only [List.set_cons_zero, List.set_cons_succ, ← bys_append, ← u32s_append, ← u64s_append, ← i64s_append, List.nil_append, Nat.zero_add]
  refine vl_v (q_assign rfl) rfl ?_
  refine vl_nil ?_
  refine (th_n ?_)
  refine VC_seq ?_
  refine VC_region ?_
  refine vl_v (q_move rfl) rfl ?_
  refine vl_v (q_fldA fo35_4 (by decide) rfl rfl) rfl ?_
  refine vl_v (q_load 2 Try.underlying26 rfl rfl rfl g4) rfl ?_
  refine vl_v (q_lenS Try.underlying26 rfl) rfl ?_
  refine vl_v (q_conv_nw Try.underlying3 Try.underlying45 rfl (by omega)) rfl ?_
  refine l_callR Try.func19 rfl rfl rfl (fun w1 H1 => eu ▸ high_calls n 2 2 rfl (by omega) w1) rfl ?_
  intro A34 c34 hc34 hm34
  refine l_append 2 rfl rfl rfl Try.underlying26 Try.underlying26 in5 rfl (by decide) (Reads.row 0 rfl) (by first | omega | with_reducible assumption | (simp only [zb, zu, zw, zi, n64s_length, za]; omega) | (simp only [zs, zr, zm, za, zb, zu, zw, zi, n64s_length, zt, zd, zc, zn, *] <;> first | done | omega) | rfl) (by first | (with_reducible first | exact bys_one _ | exact u32s_one _ | exact u64s_one _ | exact i64s_one _ | exact n64s_one _ | assumption) | exact bys_one _ | exact u32s_one _ | exact u64s_one _ | exact i64s_one _ | exact one_all rfl | (refine app_one ?_ ?_ <;> first | exact bys_one _ | exact one_all rfl | (simp; done))) (by first | omega | with_reducible assumption | (simp only [zb, zu, zw, zi, n64s_length, za]; omega) | (simp only [zs, zr, zm, za, zb, zu, zw, zi, n64s_length, zt, zd, zc, zn, *] <;> first | done | omega) | rfl) (by first | omega | with_reducible assumption | (simp only [zb, zu, zw, zi, n64s_length, za]; omega) | (simp only [zs, zr, zm, za, zb, zu, zw, zi, n64s_length, zt, zd, zc, zn, *] <;> first | done | omega) | rfl) rfl ?_
  intro A35 c35 hc35
  simp only [List.set_cons_zero, List.set_cons_succ, ← bys_append, ← u32s_append, ← u64s_append, ← i64s_append, List.nil_append, Nat.zero_add]
  refine vl_v (q_assign rfl) rfl ?_
  refine vl_nil ?_
  refine (th_n ?_)
  refine VC_seq ?_
  refine VC_region ?_
  refine vl_v (q_move rfl) rfl ?_
  refine vl_v (q_fldA fo35_4 (by decide) rfl rfl) rfl ?_
  refine vl_v (q_load 3 Try.underlying26 rfl rfl rfl g4) rfl ?_
  refine l_append 2 rfl rfl rfl Try.underlying26 Try.underlying26 in5 rfl (by decide) (Reads.old hB) (by first | omega | with_reducible assumption | (simp only [zb, zu, zw, zi, n64s_length, za]; omega) | (simp only [zs, zr, zm, za, zb, zu, zw, zi, n64s_length, zt, zd, zc, zn, *] <;> first | done | omega) | rfl) (by first | (with_reducible first | exact bys_one _ | exact u32s_one _ | exact u64s_one _ | exact i64s_one _ | exact n64s_one _ | assumption) | exact bys_one _ | exact u32s_one _ | exact u64s_one _ | exact i64s_one _ | exact one_all rfl | (refine app_one ?_ ?_ <;> first | exact bys_one _ | exact one_all rfl | (simp; done))) (by first | omega | with_reducible assumption | (simp only [zb, zu, zw, zi, n64s_length, za]; omega) | (simp only [zs, zr, zm, za, zb, zu, zw, zi, n64s_length, zt, zd, zc, zn, *] <;> first | done | omega) | rfl) (by first | omega | with_reducible assumption | (simp only [zb, zu, zw, zi, n64s_length, za]; omega) | (simp only [zs, zr, zm, za, zb, zu, zw, zi, n64s_length, zt, zd, zc, zn, *] <;> first | done | omega) | rfl) rfl ?_
  intro A39 c39 hc39
  simp only [List.set_cons_zero, List.set_cons_succ, ← bys_append, ← u32s_append, ← u64s_append, ← i64s_append, List.nil_append, Nat.zero_add]
  refine vl_v (q_assign rfl) rfl ?_
  refine vl_v (q_assign rfl) rfl ?_
  refine vl_nil ?_
  refine (th_n ?_)
  refine VC_ret ?_
  refine ⟨_, res2 rfl rfl rfl, ?_⟩
  exact ⟨_, rfl, fun w' H => by simpa [bys_append, List.append_assoc] using H.pick (ks := [2]) (by decide) rfl⟩
theorem renv_ok (f t : Nat) (cm pub : List UInt8) (x y : Nat) (body : List UInt8) (n cB : Nat) (B : Option Addr) (hn : n = body.length) (hc : cm.length = 32) (hp : pub.length = 32) (hr : rightEB f t x y n = true) (w : World) (hB : SlAt w B (bys body)) :
    Calls Try.prog 14 #[.agg (envC f t cm pub x y (.slice B n cB)).toArray] w fun e w' => ∃ v, e = .returned (.tuple #[v, vN 0]) ∧ St [] w [.row 5 1 v (76 + n) (bys (envB f t cm pub x y body))] w' := by
  have hF := envC_f (f := (f : Int)) (t := (t : Int)) (p := (x : Int)) (q := (y : Int)) (sl := .slice B n cB) hc hp
  have hE := rrightE_calls f t cm pub x y n cB B hc hp
  rw [hr] at hE
  obtain ⟨c, hcc⟩ : ∃ c, envC f t cm pub x y (.slice B n cB) = c := ⟨_, rfl⟩
  rw [hcc] at hF hE ⊢
  obtain ⟨h0, g0, g1, g2, g3, g4⟩ := hF
  have hh := headC_length hp x y
  obtain ⟨h1, h2, h3⟩ := rightEB_iff.1 hr
  have h4 := rightB_iff.1 h2
  have hby := fun w => rbytes_ok pub x y hp (by omega) (by omega) w
  have l1 := headB_length hp x y
  have l2 := highB_length n 2
  have hb : envB f t cm pub x y body = [UInt8.ofNat f, UInt8.ofNat t] ++ cm ++ headB pub x y ++ highB n 2 ++ body := by rw [hn]; rfl
  rw [hb]
  obtain ⟨hB8, eh⟩ : ∃ u, headB pub x y = u := ⟨_, rfl⟩
  obtain ⟨u2, eu⟩ : ∃ u, highB n 2 = u := ⟨_, rfl⟩
  obtain ⟨a0, ea0⟩ : ∃ u, UInt8.ofNat f = u := ⟨_, rfl⟩
  obtain ⟨a1, ea1⟩ : ∃ u, UInt8.ofNat t = u := ⟨_, rfl⟩
  rw [eh] at l1 hby ⊢
  rw [eu] at l2 ⊢
  rw [ea0, ea1]
  have lb : (bys body).length = n := by simp [bys, hn]
  refine enter (n := 40) (R := rowTo w (76 + n) ([a0, a1] ++ cm ++ hB8 ++ u2 ++ body) (vN 0)) [.agg c.toArray] Try.func14 rfl rfl rfl (St.refl w) ?_ (fun e w' L' h H => by obtain ⟨v, h1, h2⟩ := h; exact ⟨v, h1, h2 w' H⟩)
  refine VC_seq ?_
  refine VC_region ?_
  refine l_boxA rfl rfl ?_
  intro b1
  refine vl_v (q_assign rfl) rfl ?_
  refine vl_v (q_assign rfl) rfl ?_
  refine vl_nil ?_
  refine (th_n ?_)
  refine VC_seq ?_
  refine VC_seq ?_
  refine VC_region ?_
  refine vl_v (q_loads 0 Try.underlying35 rfl rfl rfl sz35 h0) rfl ?_
  refine vl_v (q_callV Try.func28 rfl rfl rfl (fun w1 H1 => hE w1)) rfl ?_
  refine vl_v (q_not rfl) rfl ?_
  refine vl_nil ?_
  refine (th_n ?_)
  refine VC_no (rfl) ?_
  refine VC_skip ?_
  refine (th_n ?_)
  refine VC_seq ?_
  refine VC_drawM 9 [[], [0], [1], [], [3], [4], [2, 5], [], [7], [6, 8], [9, 0, 1, 2, 3, 4, 5, 6, 7, 8]] [[], [0], [0, 1], [], [3], [3, 4], [0, 1, 2, 3, 4, 5], [], [7], [0, 1, 2, 3, 4, 5, 6, 7, 8], [0, 1, 2, 3, 4, 5, 6, 7, 8, 9]] rfl (by kernel_rfl) ?_
  refine qm_v (fun xs hx => q_fldA fo35_0 (by decide) rfl rfl) ?_
  refine qm_v (fun xs hx => q_load 0 Try.underlying3 rfl rfl rfl g0) ?_
  refine qm_v (fun xs hx => q_as (v := vU8 a0) (q_conv_nu8 Try.underlying3 Try.underlying5 rfl) (by rw [ea0])) ?_
  refine qm_v (fun xs hx => q_fldA fo35_1 (by decide) rfl rfl) ?_
  refine qm_v (fun xs hx => q_load 0 Try.underlying3 rfl rfl rfl g1) ?_
  refine qm_v (fun xs hx => q_as (v := vU8 a1) (q_conv_nu8 Try.underlying3 Try.underlying5 rfl) (by rw [ea1])) ?_
  refine qm_a (fun xs hx => q_litA (cs := bys [a0, a1]) Try.underlying26 in5 (by decide) rfl rfl rfl rfl (one_all rfl) rfl) ?_
  refine qm_v (fun xs hx => q_fldA fo35_2 (by decide) rfl rfl) ?_
  refine qm_v (fun xs hx => q_slcA Try.underlying23 sz5 rfl rfl rfl rfl (.inl rfl) (by omega) (by omega) (by omega) (by omega) (by (try simp only [Nat.mul_one, Nat.zero_add, Nat.zero_mul, Nat.mul_zero, Nat.add_zero]) <;> rfl)) ?_
  refine qm_end ?_
  intro xs hx
  obtain ⟨⟨b16, e16⟩, _⟩ := hx
  simp only [e16]
  simp only [resT, nRow, nBlk, nRowT, tupAt_0, List.append_assoc, List.nil_append, List.append_nil, List.cons_append, List.singleton_append, e16]
  refine VL.keep (Sub.cons (s := 0) rfl (Sub.cons (s := 1) rfl (Sub.cons (s := 2) rfl (Sub.cons (s := 3) rfl (Sub.cons (s := 9) rfl (Sub.cons (s := 16) rfl (Sub.cons (s := 18) rfl (Sub.nil _)))))))) ?_
  refine l_append 0 rfl rfl rfl Try.underlying26 Try.underlying26 in5 rfl (by decide) (Reads.blkTake 1 2 32 rfl g2) (by first | omega | with_reducible assumption | (simp only [zb, zu, zw, zi, n64s_length, za]; omega) | (simp only [zs, zr, zm, za, zb, zu, zw, zi, n64s_length, zt, zd, zc, zn, *] <;> first | done | omega) | rfl) (by first | (with_reducible first | exact bys_one _ | exact u32s_one _ | exact u64s_one _ | exact i64s_one _ | exact n64s_one _ | assumption) | exact bys_one _ | exact u32s_one _ | exact u64s_one _ | exact i64s_one _ | exact one_all rfl | (refine app_one ?_ ?_ <;> first | exact bys_one _ | exact one_all rfl | (simp; done))) (by first | omega | with_reducible assumption | (simp only [zb, zu, zw, zi, n64s_length, za]; omega) | (simp only [zs, zr, zm, za, zb, zu, zw, zi, n64s_length, zt, zd, zc, zn, *] <;> first | done | omega) | rfl) (by first | omega | with_reducible assumption | (simp only [zb, zu, zw, zi, n64s_length, za]; omega) | (simp only [zs, zr, zm, za, zb, zu, zw, zi, n64s_length, zt, zd, zc, zn, *] <;> first | done | omega) | rfl) rfl ?_
  intro A19 c19 hc19
  simp only [List.set_cons_zero, List.set_cons_succ, ← bys_append, ← u32s_append, ← u64s_append, ← i64s_append, List.nil_append, Nat.zero_add]
  refine vl_v (q_assign rfl) rfl ?_
  refine vl_nil ?_
  refine (qn_n (th_n ?_))
  refine VC_seq ?_
  refine VC_region ?_
  refine vl_v (q_fldA fo35_3 (by decide) rfl rfl) rfl ?_
  refine vl_v (q_loadsAt 1 Try.underlying25 rfl rfl rfl sz25 g3 hh) rfl ?_
  refine l_callT Try.func10 rfl rfl rfl (fun w1 H1 => hby w1) rfl ?_
  intro A23 c23 hc23 hm23
  refine vl_v (q_move rfl) rfl ?_
  refine vl_v (q_ext rfl rfl) rfl ?_
  refine vl_v (q_ext rfl rfl) rfl ?_
  refine vl_v (q_assign rfl) rfl ?_
  refine vl_v (q_assign rfl) rfl ?_
  refine vl_nil ?_
  refine (th_n ?_)
  refine VC_seq ?_
  refine VC_region ?_
  refine vl_v (q_move rfl) rfl ?_
  refine vl_v (q_move rfl) rfl ?_
  refine l_append 1 rfl rfl rfl Try.underlying26 Try.underlying26 in5 rfl (by decide) (Reads.row 0 rfl) (by first | omega | with_reducible assumption | (simp only [zb, zu, zw, zi, n64s_length, za]; omega) | (simp only [zs, zr, zm, za, zb, zu, zw, zi, n64s_length, zt, zd, zc, zn, *] <;> first | done | omega) | rfl) (by first | (with_reducible first | exact bys_one _ | exact u32s_one _ | exact u64s_one _ | exact i64s_one _ | exact n64s_one _ | assumption) | exact bys_one _ | exact u32s_one _ | exact u64s_one _ | exact i64s_one _ | exact one_all rfl | (refine app_one ?_ ?_ <;> first | exact bys_one _ | exact one_all rfl | (simp; done))) (by first | omega | with_reducible assumption | (simp only [zb, zu, zw, zi, n64s_length, za]; omega) | (simp only [zs, zr, zm, za, zb, zu, zw, zi, n64s_length, zt, zd, zc, zn, *] <;> first | done | omega) | rfl) (by first | omega | with_reducible assumption | (simp only [zb, zu, zw, zi, n64s_length, za]; omega) | (simp only [zs, zr, zm, za, zb, zu, zw, zi, n64s_length, zt, zd, zc, zn, *] <;> first | done | omega) | rfl) rfl ?_
  intro A28 c28 hc28
  simp only [List.set_cons_zero, List.set_cons_succ, ← bys_append, ← u32s_append, ← u64s_append, ← i64s_append, List.nil_append, Nat.zero_add]
  refine vl_v (q_assign rfl) rfl ?_
  refine vl_nil ?_
  refine (th_n ?_)
  refine VC_seq ?_
  refine VC_region ?_
  refine vl_v (q_move rfl) rfl ?_
  refine vl_v (q_fldA fo35_4 (by decide) rfl rfl) rfl ?_
  refine vl_v (q_load 2 Try.underlying26 rfl rfl rfl g4) rfl ?_
  refine vl_v (q_lenS Try.underlying26 rfl) rfl ?_
  refine vl_v (q_conv_nw Try.underlying3 Try.underlying45 rfl (by omega)) rfl ?_
  refine l_callR Try.func21 rfl rfl rfl (fun w1 H1 => eu ▸ rhigh_calls n 2 2 rfl (by omega) (by omega) w1) rfl ?_
  intro A34 c34 hc34 hm34
  refine l_append 2 rfl rfl rfl Try.underlying26 Try.underlying26 in5 rfl (by decide) (Reads.row 0 rfl) (by first | omega | with_reducible assumption | (simp only [zb, zu, zw, zi, n64s_length, za]; omega) | (simp only [zs, zr, zm, za, zb, zu, zw, zi, n64s_length, zt, zd, zc, zn, *] <;> first | done | omega) | rfl) (by first | (with_reducible first | exact bys_one _ | exact u32s_one _ | exact u64s_one _ | exact i64s_one _ | exact n64s_one _ | assumption) | exact bys_one _ | exact u32s_one _ | exact u64s_one _ | exact i64s_one _ | exact one_all rfl | (refine app_one ?_ ?_ <;> first | exact bys_one _ | exact one_all rfl | (simp; done))) (by first | omega | with_reducible assumption | (simp only [zb, zu, zw, zi, n64s_length, za]; omega) | (simp only [zs, zr, zm, za, zb, zu, zw, zi, n64s_length, zt, zd, zc, zn, *] <;> first | done | omega) | rfl) (by first | omega | with_reducible assumption | (simp only [zb, zu, zw, zi, n64s_length, za]; omega) | (simp only [zs, zr, zm, za, zb, zu, zw, zi, n64s_length, zt, zd, zc, zn, *] <;> first | done | omega) | rfl) rfl ?_
  intro A35 c35 hc35
  simp only [List.set_cons_zero, List.set_cons_succ, ← bys_append, ← u32s_append, ← u64s_append, ← i64s_append, List.nil_append, Nat.zero_add]
  refine vl_v (q_assign rfl) rfl ?_
  refine vl_nil ?_
  refine (th_n ?_)
  refine VC_seq ?_
  refine VC_region ?_
  refine vl_v (q_move rfl) rfl ?_
  refine vl_v (q_fldA fo35_4 (by decide) rfl rfl) rfl ?_
  refine vl_v (q_load 3 Try.underlying26 rfl rfl rfl g4) rfl ?_
  refine l_append 2 rfl rfl rfl Try.underlying26 Try.underlying26 in5 rfl (by decide) (Reads.old hB) (by first | omega | with_reducible assumption | (simp only [zb, zu, zw, zi, n64s_length, za]; omega) | (simp only [zs, zr, zm, za, zb, zu, zw, zi, n64s_length, zt, zd, zc, zn, *] <;> first | done | omega) | rfl) (by first | (with_reducible first | exact bys_one _ | exact u32s_one _ | exact u64s_one _ | exact i64s_one _ | exact n64s_one _ | assumption) | exact bys_one _ | exact u32s_one _ | exact u64s_one _ | exact i64s_one _ | exact one_all rfl | (refine app_one ?_ ?_ <;> first | exact bys_one _ | exact one_all rfl | (simp; done))) (by first | omega | with_reducible assumption | (simp only [zb, zu, zw, zi, n64s_length, za]; omega) | (simp only [zs, zr, zm, za, zb, zu, zw, zi, n64s_length, zt, zd, zc, zn, *] <;> first | done | omega) | rfl) (by first | omega | with_reducible assumption | (simp only [zb, zu, zw, zi, n64s_length, za]; omega) | (simp only [zs, zr, zm, za, zb, zu, zw, zi, n64s_length, zt, zd, zc, zn, *] <;> first | done | omega) | rfl) rfl ?_
  intro A39 c39 hc39
  simp only [List.set_cons_zero, List.set_cons_succ, ← bys_append, ← u32s_append, ← u64s_append, ← i64s_append, List.nil_append, Nat.zero_add]
  refine vl_v (q_assign rfl) rfl ?_
  refine vl_v (q_assign rfl) rfl ?_
  refine vl_nil ?_
  refine (th_n ?_)
  refine VC_ret ?_
  refine ⟨_, res2 rfl rfl rfl, ?_⟩
  exact ⟨_, rfl, fun w' H => by simpa [bys_append, List.append_assoc] using H.pick (ks := [2]) (by decide) rfl⟩
end Go.Proofs.Ytpjjledbmfmbiaa
