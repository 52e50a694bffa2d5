/- Turned twice bytes are as they were, and a number's bytes are read as it was: the statement OctetsTwice. No condition. -/
import Derived.Test.YthdendffngihbaaQ01
namespace Go.Proofs.Ythdendffngihbaa
open Go.RowKit Go.PBYthdendffngihbaa
set_option linter.unusedVariables false
set_option linter.unusedSimpArgs false
set_option maxRecDepth 10000

theorem ofLow_low (n : Nat) (hn : n < 18446744073709551616) : ofHigh ((lowB n 8).take 8).reverse = n := by
  rw [List.take_of_length_le (by rw [lowB_length]; omega)]
  exact (ofHigh_highB n 8).trans (Nat.mod_eq_of_lt (by simpa using hn))
theorem ofHigh_high8 (n : Nat) (hn : n < 18446744073709551616) : ofHigh ((highB n 8).take 8) = n := by
  rw [List.take_of_length_le (by rw [highB_length]; omega)]
  exact (ofHigh_highB n 8).trans (Nat.mod_eq_of_lt (by simpa using hn))
theorem ofHigh_high2 (n : Nat) : ofHigh ((highB n 2).take 8) = n % 65536 := by
  rw [List.take_of_length_le (by rw [highB_length]; omega)]
  exact ofHigh_highB n 2

theorem ofLow_low_calls (n : Nat) (hn : n < 18446744073709551616) (A : Option Addr) (c : Nat) (w : World) (hA : SlAt w A (bys (lowB n 8))) (hc : (lowB n 8).length ≤ c) :
    Calls Try.prog 17 #[.slice A (lowB n 8).length c] w fun e w' => e = .returned (.int .u64 n) ∧ Kept [] w w' := by
  have h := ofLow_calls (lowB n 8) A c w hA hc (by rw [lowB_length]; omega)
  rwa [ofLow_low n hn] at h
theorem ofHigh_high8_calls (n : Nat) (hn : n < 18446744073709551616) (A : Option Addr) (c : Nat) (w : World) (hA : SlAt w A (bys (highB n 8))) (hc : (highB n 8).length ≤ c) :
    Calls Try.prog 19 #[.slice A (highB n 8).length c] w fun e w' => e = .returned (.int .u64 n) ∧ w = w' := by
  have h := ofHigh_calls (highB n 8) A c w hA hc (by rw [highB_length]; omega)
  rwa [ofHigh_high8 n hn] at h
theorem ofHigh_high2_calls (n : Nat) (A : Option Addr) (c : Nat) (w : World) (hA : SlAt w A (bys (highB n 2))) (hc : (highB n 2).length ≤ c) :
    Calls Try.prog 19 #[.slice A (highB n 2).length c] w fun e w' => e = .returned (.int .u64 (n % 65536 : Nat)) ∧ w = w' := by
  have h := ofHigh_calls (highB n 2) A c w hA hc (by rw [highB_length]; omega)
  rwa [ofHigh_high2 n] at h

set_option maxHeartbeats 3200000 in
theorem octetsTwice.walk (w : World) (v0 : Value) (a : List UInt8) (h0 : BsArg w v0 a) (v1 : Value) (b : List UInt8) (h1 : BsArg w v1 b) (n0 : Int) (hn0 : (Lit.int .u64 n0).wf = true) :
    Calls Try.prog 6 #[v0, v1, .int .u64 n0] w fun e w' => e = .returned (.bool true) ∧ Kept [] w w' := by
  obtain ⟨A, c, rfl, hc, hc2, hA⟩ := h0
  obtain ⟨B, d, rfl, hd, hd2, hB⟩ := h1
  obtain ⟨n, rfl, hn⟩ : ∃ n : Nat, n0 = n ∧ n < 18446744073709551616 := by
    simp only [Lit.wf, Bool.and_eq_true, decide_eq_true_eq] at hn0
    have h1 : IntKind.u64.min = 0 := rfl
    have h2 : IntKind.u64.max = 18446744073709551615 := rfl
    exact ⟨n0.toNat, by omega, by omega⟩
  clear hn0
  go_enter Try.func6, Try.ntmps6
  go_wp2_with (first | (with_reducible refine stop_box ?_) | (with_reducible refine stop_alloc ?_) | (with_reducible refine stop_load ?_) | (with_reducible refine stop_store ?_) | (with_reducible refine stop_make ?_) | (with_reducible refine stop_lit ?_) | (with_reducible refine stop_append ?_) | (with_reducible refine stop_copy ?_) | (with_reducible refine stop_map ?_) | (with_reducible refine stop_lookup ?_) | (with_reducible refine stop_update ?_) | (with_reducible refine stop_delete ?_) | (with_reducible refine stop_arr ?_) | (with_reducible refine stop_idx ?_) | (with_reducible refine stop_conv (e := 26) (f := 9) ?_) | ((with_reducible refine stopg_box ?hw ?_); case hw => rfl) | ((with_reducible refine stopg_alloc ?hw ?_); case hw => rfl) | ((with_reducible refine stopg_load ?hw ?_); case hw => rfl) | ((with_reducible refine stopg_store ?hw ?_); case hw => rfl) | ((with_reducible refine stopg_make ?hw ?_); case hw => rfl) | ((with_reducible refine stopg_lit ?hw ?_); case hw => rfl) | ((with_reducible refine stopg_append ?hw ?_); case hw => rfl) | ((with_reducible refine stopg_copy ?hw ?_); case hw => rfl) | ((with_reducible refine stopg_map ?hw ?_); case hw => rfl) | ((with_reducible refine stopg_lookup ?hw ?_); case hw => rfl) | ((with_reducible refine stopg_update ?hw ?_); case hw => rfl) | ((with_reducible refine stopg_delete ?hw ?_); case hw => rfl) | ((with_reducible refine stopg_arr ?hw ?_); case hw => rfl) | ((with_reducible refine stopg_conv (e := 26) (f := 9) ?hw ?_); case hw => rfl) | ((with_reducible refine stopg_idx ?hw ?_); case hw => rfl))
  refine (awake_calls w).mono ?_
  rintro e w1 ⟨rfl, k1⟩
  by_cases hl : a.length ≤ 500 ∧ b.length ≤ 500
  · obtain ⟨ha, hb⟩ := hl
    have ha' : decide (500 < (a.length : Int)) = false := by simp; omega
    have hb' : decide (500 < (b.length : Int)) = false := by simp; omega
    obtain ⟨k, hk⟩ : ∃ k, k = min a.length b.length := ⟨_, rfl⟩
    have hmin : (if (b.length : Int) < (a.length : Int) then (b.length : Int) else (a.length : Int)) = (k : Int) := by split <;> omega
    have hmin2 : (if b.length < a.length then (b.length : Int) else (a.length : Int)) = (k : Int) := by split <;> omega
    have hka : k ≤ a.length := by omega
    have hkb : k ≤ b.length := by omega
    have hlx : Hid ((a.take k).length = k) := by show _ = _; rw [List.length_take]; omega
    have hly : Hid ((b.take k).length = k) := by show _ = _; rw [List.length_take]; omega
    clear hk
    go_wp2_with (first | (with_reducible refine stop_box ?_) | (with_reducible refine stop_alloc ?_) | (with_reducible refine stop_load ?_) | (with_reducible refine stop_store ?_) | (with_reducible refine stop_make ?_) | (with_reducible refine stop_lit ?_) | (with_reducible refine stop_append ?_) | (with_reducible refine stop_copy ?_) | (with_reducible refine stop_map ?_) | (with_reducible refine stop_lookup ?_) | (with_reducible refine stop_update ?_) | (with_reducible refine stop_delete ?_) | (with_reducible refine stop_arr ?_) | (with_reducible refine stop_idx ?_) | (with_reducible refine stop_conv (e := 26) (f := 9) ?_) | ((with_reducible refine stopg_box ?hw ?_); case hw => rfl) | ((with_reducible refine stopg_alloc ?hw ?_); case hw => rfl) | ((with_reducible refine stopg_load ?hw ?_); case hw => rfl) | ((with_reducible refine stopg_store ?hw ?_); case hw => rfl) | ((with_reducible refine stopg_make ?hw ?_); case hw => rfl) | ((with_reducible refine stopg_lit ?hw ?_); case hw => rfl) | ((with_reducible refine stopg_append ?hw ?_); case hw => rfl) | ((with_reducible refine stopg_copy ?hw ?_); case hw => rfl) | ((with_reducible refine stopg_map ?hw ?_); case hw => rfl) | ((with_reducible refine stopg_lookup ?hw ?_); case hw => rfl) | ((with_reducible refine stopg_update ?hw ?_); case hw => rfl) | ((with_reducible refine stopg_delete ?hw ?_); case hw => rfl) | ((with_reducible refine stopg_arr ?hw ?_); case hw => rfl) | ((with_reducible refine stopg_conv (e := 26) (f := 9) ?hw ?_); case hw => rfl) | ((with_reducible refine stopg_idx ?hw ?_); case hw => rfl))
    refine wp_region_all (n := 86) (fun w' => Kept [] w w') (regF [fun v _ => v = .slice A a.length c, fun v _ => v = .int .i64 k, fun v w' => BsAt w' v (a.take k), fun v _ => v = .slice B b.length d, fun v _ => v = .int .i64 k, fun v w' => BsAt w' v (b.take k), fun v w' => ∃ A1 c1, v = .tuple #[.slice A1 (xorB (a.take k) (b.take k)).length c1, .int .i64 0] ∧ (xorB (a.take k) (b.take k)).length ≤ c1 ∧ SlAt w' A1 (bys (xorB (a.take k) (b.take k))), fun v w' => ∃ A1 c1, v = .tuple #[.slice A1 (xorB (a.take k) (b.take k)).length c1, .int .i64 0] ∧ (xorB (a.take k) (b.take k)).length ≤ c1 ∧ SlAt w' A1 (bys (xorB (a.take k) (b.take k))), fun v w' => BsAt w' v (xorB (a.take k) (b.take k)), fun v _ => v = .int .i64 0, fun v w' => BsAt w' v (xorB (a.take k) (b.take k)), fun v _ => v = .int .i64 0]) [[], [], [(29, 0), (30, 1)], [], [], [(32, 3), (33, 4)], [(31, 2), (34, 5)], [(35, 6)], [(28, 7)], [(28, 7)], [(36, 8), (35, 6), (29, 0), (30, 1), (31, 2), (32, 3), (33, 4), (34, 5), (28, 7)], [(37, 9), (9, 10), (29, 0), (30, 1), (31, 2), (32, 3), (33, 4), (34, 5), (35, 6), (28, 7), (36, 8)]] [(29, 0), (30, 1), (31, 2), (32, 3), (33, 4), (34, 5), (35, 6), (28, 7), (36, 8), (37, 9), (9, 10), (10, 11)] (by kernel_rfl) (by kernel_rfl) rfl k1.drew (regF_stable ⟨Stable.eq _, Stable.eq _, (fun _ _ hK _ h => BsAt.keep h hK), Stable.eq _, Stable.eq _, (fun _ _ hK _ h => BsAt.keep h hK), (fun _ _ hK _ h => by obtain ⟨A1, c1, e1, l1, s1⟩ := h; exact ⟨A1, c1, e1, l1, s1.keep hK⟩), (fun _ _ hK _ h => by obtain ⟨A1, c1, e1, l1, s1⟩ := h; exact ⟨A1, c1, e1, l1, s1.keep hK⟩), (fun _ _ hK _ h => BsAt.keep h hK), Stable.eq _, (fun _ _ hK _ h => BsAt.keep h hK), Stable.eq _, trivial⟩) ⟨?_, ?_, ?_, ?_, ?_, ?_, ?_, ?_, ?_, ?_, ?_, ?_, trivial⟩ ?_
    · intro vx w9 hC hF
      clear hF
      refine .inl ⟨trivial, ?_⟩
      simp only [putsOf]
      exact opw_val (v := .slice A a.length c) (w' := w9) (by go_simp <;> (simp only [IntKind.wrap_u64, IntKind.wrap_i64] <;> omega)) ⟨_, rfl, by simp, hC, (Kept.refl _ _), rfl⟩
    · intro vx w9 hC hF
      clear hF
      refine .inl ⟨trivial, ?_⟩
      simp only [putsOf]
      exact opw_val (v := .int .i64 k) (w' := w9) (by go_simp <;> (simp only [IntKind.wrap_u64, IntKind.wrap_i64] <;> omega)) ⟨_, rfl, by simp, hC, (Kept.refl _ _), rfl⟩
    · intro vx w9 hC hF
      have q0 : (vx 0) = .slice A a.length c := hF (29, 0) (by simp)
      have q1 : (vx 1) = .int .i64 k := hF (30, 1) (by simp)
      clear hF
      refine .inl ⟨trivial, ?_⟩
      simp only [putsOf, q0, q1]
      refine opw_sliceB 0 k a Try.underlying26 u8size rfl (.inl ⟨rfl, rfl⟩) (.inr ⟨.i64, _, rfl, rfl⟩) (by omega) (by omega) hc (fun B1 hB1 => ?_)
      exact ⟨_, rfl, by simp, hC, Kept.refl _ _, B1, c, by rw [hlx.out]; simp, by rw [hlx.out]; omega, by simpa using hB1 w9 (hA.keep hC)⟩
    · intro vx w9 hC hF
      clear hF
      refine .inl ⟨trivial, ?_⟩
      simp only [putsOf]
      exact opw_val (v := .slice B b.length d) (w' := w9) (by go_simp <;> (simp only [IntKind.wrap_u64, IntKind.wrap_i64] <;> omega)) ⟨_, rfl, by simp, hC, (Kept.refl _ _), rfl⟩
    · intro vx w9 hC hF
      clear hF
      refine .inl ⟨trivial, ?_⟩
      simp only [putsOf]
      exact opw_val (v := .int .i64 k) (w' := w9) (by go_simp <;> (simp only [IntKind.wrap_u64, IntKind.wrap_i64] <;> omega)) ⟨_, rfl, by simp, hC, (Kept.refl _ _), rfl⟩
    · intro vx w9 hC hF
      have q3 : (vx 3) = .slice B b.length d := hF (32, 3) (by simp)
      have q4 : (vx 4) = .int .i64 k := hF (33, 4) (by simp)
      clear hF
      refine .inl ⟨trivial, ?_⟩
      simp only [putsOf, q3, q4]
      refine opw_sliceB 0 k b Try.underlying26 u8size rfl (.inl ⟨rfl, rfl⟩) (.inr ⟨.i64, _, rfl, rfl⟩) (by omega) (by omega) hd (fun B1 hB1 => ?_)
      exact ⟨_, rfl, by simp, hC, Kept.refl _ _, B1, d, by rw [hly.out]; simp, by rw [hly.out]; omega, by simpa using hB1 w9 (hB.keep hC)⟩
    · intro vx w9 hC hF
      have q2 : BsAt w9 (vx 2) (a.take k) := hF (31, 2) (by simp)
      have p2 := q2
      obtain ⟨A2, c2, e2, l2, s2⟩ := q2
      have q5 : BsAt w9 (vx 5) (b.take k) := hF (34, 5) (by simp)
      have p5 := q5
      obtain ⟨A5, c5, e5, l5, s5⟩ := q5
      clear hF
      refine .inl ⟨trivial, ?_⟩
      simp only [putsOf, e2, e5]
      refine opw_call [.slice A2 (a.take k).length c2, .slice A5 (b.take k).length c5] Try.func13 rfl (by kernel_rfl) rfl ?_
      refine (xor_calls (a.take k) (b.take k) A2 A5 c2 c5 w9 s2 s5 l2 l5 (by rw [hlx.out]; omega) (by rw [hlx.out, hly.out])).mono ?_
      rintro e w1 ⟨v, rfl, H1⟩
      obtain ⟨A1, c1, rfl, l1, s1⟩ := Row.bs (H1.get (k := 0) rfl)
      exact ⟨_, rfl, _, rfl, by simp, hC.trans H1.kept, H1.kept, A1, c1, rfl, l1, s1⟩
    · intro vx w9 hC hF
      have q6 : ∃ A1 c1, (vx 6) = .tuple #[.slice A1 (xorB (a.take k) (b.take k)).length c1, .int .i64 0] ∧ (xorB (a.take k) (b.take k)).length ≤ c1 ∧ SlAt w9 A1 (bys (xorB (a.take k) (b.take k))) := hF (35, 6) (by simp)
      have p6 := q6
      obtain ⟨A6, c6, e6, l6, s6⟩ := q6
      clear hF
      refine .inl ⟨trivial, ?_⟩
      simp only [putsOf, e6]
      exact opw_val (v := vx 6) (w' := w9) (by rw [e6]; go_simp <;> (simp only [IntKind.wrap_u64, IntKind.wrap_i64] <;> omega)) ⟨_, rfl, by simp, hC, (Kept.refl _ _), p6⟩
    · intro vx w9 hC hF
      have q7 : ∃ A1 c1, (vx 7) = .tuple #[.slice A1 (xorB (a.take k) (b.take k)).length c1, .int .i64 0] ∧ (xorB (a.take k) (b.take k)).length ≤ c1 ∧ SlAt w9 A1 (bys (xorB (a.take k) (b.take k))) := hF (28, 7) (by simp)
      have p7 := q7
      obtain ⟨A7, c7, e7, l7, s7⟩ := q7
      clear hF
      refine .inl ⟨trivial, ?_⟩
      simp only [putsOf, e7]
      exact opw_val (v := .slice A7 (xorB (a.take k) (b.take k)).length c7) (w' := w9) (by go_simp) ⟨_, rfl, by simp, hC, Kept.refl _ _, A7, c7, rfl, l7, s7⟩
    · intro vx w9 hC hF
      have q7 : ∃ A1 c1, (vx 7) = .tuple #[.slice A1 (xorB (a.take k) (b.take k)).length c1, .int .i64 0] ∧ (xorB (a.take k) (b.take k)).length ≤ c1 ∧ SlAt w9 A1 (bys (xorB (a.take k) (b.take k))) := hF (28, 7) (by simp)
      have p7 := q7
      obtain ⟨A7, c7, e7, l7, s7⟩ := q7
      clear hF
      refine .inl ⟨trivial, ?_⟩
      simp only [putsOf, e7]
      exact opw_val (v := .int .i64 0) (w' := w9) (by go_simp <;> (simp only [IntKind.wrap_u64, IntKind.wrap_i64] <;> omega)) ⟨_, rfl, by simp, hC, (Kept.refl _ _), rfl⟩
    · intro vx w9 hC hF
      have q8 : BsAt w9 (vx 8) (xorB (a.take k) (b.take k)) := hF (36, 8) (by simp)
      have p8 := q8
      obtain ⟨A8, c8, e8, l8, s8⟩ := q8
      have q6 : ∃ A1 c1, (vx 6) = .tuple #[.slice A1 (xorB (a.take k) (b.take k)).length c1, .int .i64 0] ∧ (xorB (a.take k) (b.take k)).length ≤ c1 ∧ SlAt w9 A1 (bys (xorB (a.take k) (b.take k))) := hF (35, 6) (by simp)
      have p6 := q6
      obtain ⟨A6, c6, e6, l6, s6⟩ := q6
      have q0 : (vx 0) = .slice A a.length c := hF (29, 0) (by simp)
      have q1 : (vx 1) = .int .i64 k := hF (30, 1) (by simp)
      have q2 : BsAt w9 (vx 2) (a.take k) := hF (31, 2) (by simp)
      have p2 := q2
      obtain ⟨A2, c2, e2, l2, s2⟩ := q2
      have q3 : (vx 3) = .slice B b.length d := hF (32, 3) (by simp)
      have q4 : (vx 4) = .int .i64 k := hF (33, 4) (by simp)
      have q5 : BsAt w9 (vx 5) (b.take k) := hF (34, 5) (by simp)
      have p5 := q5
      obtain ⟨A5, c5, e5, l5, s5⟩ := q5
      have q7 : ∃ A1 c1, (vx 7) = .tuple #[.slice A1 (xorB (a.take k) (b.take k)).length c1, .int .i64 0] ∧ (xorB (a.take k) (b.take k)).length ≤ c1 ∧ SlAt w9 A1 (bys (xorB (a.take k) (b.take k))) := hF (28, 7) (by simp)
      have p7 := q7
      obtain ⟨A7, c7, e7, l7, s7⟩ := q7
      clear hF
      refine .inl ⟨trivial, ?_⟩
      simp only [putsOf, e8, e6, q0, q1, e2, q3, q4, e5, e7]
      exact opw_val (v := vx 8) (w' := w9) (by rw [e8]; go_simp <;> (simp only [IntKind.wrap_u64, IntKind.wrap_i64] <;> omega)) ⟨_, rfl, by simp, hC, (Kept.refl _ _), p8⟩
    · intro vx w9 hC hF
      have q9 : (vx 9) = .int .i64 0 := hF (37, 9) (by simp)
      have q10 : BsAt w9 (vx 10) (xorB (a.take k) (b.take k)) := hF (9, 10) (by simp)
      have p10 := q10
      obtain ⟨A10, c10, e10, l10, s10⟩ := q10
      have q0 : (vx 0) = .slice A a.length c := hF (29, 0) (by simp)
      have q1 : (vx 1) = .int .i64 k := hF (30, 1) (by simp)
      have q2 : BsAt w9 (vx 2) (a.take k) := hF (31, 2) (by simp)
      have p2 := q2
      obtain ⟨A2, c2, e2, l2, s2⟩ := q2
      have q3 : (vx 3) = .slice B b.length d := hF (32, 3) (by simp)
      have q4 : (vx 4) = .int .i64 k := hF (33, 4) (by simp)
      have q5 : BsAt w9 (vx 5) (b.take k) := hF (34, 5) (by simp)
      have p5 := q5
      obtain ⟨A5, c5, e5, l5, s5⟩ := q5
      have q6 : ∃ A1 c1, (vx 6) = .tuple #[.slice A1 (xorB (a.take k) (b.take k)).length c1, .int .i64 0] ∧ (xorB (a.take k) (b.take k)).length ≤ c1 ∧ SlAt w9 A1 (bys (xorB (a.take k) (b.take k))) := hF (35, 6) (by simp)
      have p6 := q6
      obtain ⟨A6, c6, e6, l6, s6⟩ := q6
      have q7 : ∃ A1 c1, (vx 7) = .tuple #[.slice A1 (xorB (a.take k) (b.take k)).length c1, .int .i64 0] ∧ (xorB (a.take k) (b.take k)).length ≤ c1 ∧ SlAt w9 A1 (bys (xorB (a.take k) (b.take k))) := hF (28, 7) (by simp)
      have p7 := q7
      obtain ⟨A7, c7, e7, l7, s7⟩ := q7
      have q8 : BsAt w9 (vx 8) (xorB (a.take k) (b.take k)) := hF (36, 8) (by simp)
      have p8 := q8
      obtain ⟨A8, c8, e8, l8, s8⟩ := q8
      clear hF
      refine .inl ⟨trivial, ?_⟩
      simp only [putsOf, q9, e10, q0, q1, e2, q3, q4, e5, e6, e7, e8]
      exact opw_val (v := .int .i64 0) (w' := w9) (by go_simp <;> (simp only [IntKind.wrap_u64, IntKind.wrap_i64] <;> omega)) ⟨_, rfl, by simp, hC, (Kept.refl _ _), rfl⟩
    intro vx w9 hC hF
    have q0 : (vx 0) = .slice A a.length c := hF 0 (by simp)
    have q1 : (vx 1) = .int .i64 k := hF 1 (by simp)
    have q2 : BsAt w9 (vx 2) (a.take k) := hF 2 (by simp)
    have p2 := q2
    obtain ⟨A2, c2, e2, l2, s2⟩ := q2
    have q3 : (vx 3) = .slice B b.length d := hF 3 (by simp)
    have q4 : (vx 4) = .int .i64 k := hF 4 (by simp)
    have q5 : BsAt w9 (vx 5) (b.take k) := hF 5 (by simp)
    have p5 := q5
    obtain ⟨A5, c5, e5, l5, s5⟩ := q5
    have q6 : ∃ A1 c1, (vx 6) = .tuple #[.slice A1 (xorB (a.take k) (b.take k)).length c1, .int .i64 0] ∧ (xorB (a.take k) (b.take k)).length ≤ c1 ∧ SlAt w9 A1 (bys (xorB (a.take k) (b.take k))) := hF 6 (by simp)
    have p6 := q6
    obtain ⟨A6, c6, e6, l6, s6⟩ := q6
    have q7 : ∃ A1 c1, (vx 7) = .tuple #[.slice A1 (xorB (a.take k) (b.take k)).length c1, .int .i64 0] ∧ (xorB (a.take k) (b.take k)).length ≤ c1 ∧ SlAt w9 A1 (bys (xorB (a.take k) (b.take k))) := hF 7 (by simp)
    have p7 := q7
    obtain ⟨A7, c7, e7, l7, s7⟩ := q7
    have q8 : BsAt w9 (vx 8) (xorB (a.take k) (b.take k)) := hF 8 (by simp)
    have p8 := q8
    obtain ⟨A8, c8, e8, l8, s8⟩ := q8
    have q9 : (vx 9) = .int .i64 0 := hF 9 (by simp)
    have q10 : BsAt w9 (vx 10) (xorB (a.take k) (b.take k)) := hF 10 (by simp)
    have p10 := q10
    obtain ⟨A10, c10, e10, l10, s10⟩ := q10
    have q11 : (vx 11) = .int .i64 0 := hF 11 (by simp)
    clear hF
    simp only [putsOf, q0, q1, e2, q3, q4, e5, e6, e7, e8, q9, e10, q11]
    simp only [Act.put, List.setIfInBounds_toArray, List.set_cons_succ, List.set_cons_zero]
    clear q0 q1 q3 q4 q9 q11
    go_wp2_with (first | (with_reducible refine stop_box ?_) | (with_reducible refine stop_alloc ?_) | (with_reducible refine stop_load ?_) | (with_reducible refine stop_store ?_) | (with_reducible refine stop_make ?_) | (with_reducible refine stop_lit ?_) | (with_reducible refine stop_append ?_) | (with_reducible refine stop_copy ?_) | (with_reducible refine stop_map ?_) | (with_reducible refine stop_lookup ?_) | (with_reducible refine stop_update ?_) | (with_reducible refine stop_delete ?_) | (with_reducible refine stop_arr ?_) | (with_reducible refine stop_idx ?_) | (with_reducible refine stop_slice ?_) | (with_reducible refine stop_conv (e := 26) (f := 9) ?_) | ((with_reducible refine stopg_box ?hw ?_); case hw => rfl) | ((with_reducible refine stopg_alloc ?hw ?_); case hw => rfl) | ((with_reducible refine stopg_load ?hw ?_); case hw => rfl) | ((with_reducible refine stopg_store ?hw ?_); case hw => rfl) | ((with_reducible refine stopg_make ?hw ?_); case hw => rfl) | ((with_reducible refine stopg_lit ?hw ?_); case hw => rfl) | ((with_reducible refine stopg_append ?hw ?_); case hw => rfl) | ((with_reducible refine stopg_copy ?hw ?_); case hw => rfl) | ((with_reducible refine stopg_map ?hw ?_); case hw => rfl) | ((with_reducible refine stopg_lookup ?hw ?_); case hw => rfl) | ((with_reducible refine stopg_update ?hw ?_); case hw => rfl) | ((with_reducible refine stopg_delete ?hw ?_); case hw => rfl) | ((with_reducible refine stopg_arr ?hw ?_); case hw => rfl) | ((with_reducible refine stopg_slice ?hw ?_); case hw => rfl) | ((with_reducible refine stopg_conv (e := 26) (f := 9) ?hw ?_); case hw => rfl) | ((with_reducible refine stopg_idx ?hw ?_); case hw => rfl))
    refine wpl_want rfl (opw_sliceB 0 k b Try.underlying26 u8size rfl (.inl ⟨rfl, rfl⟩) (.inr ⟨.i64, _, rfl, rfl⟩) (by omega) (by omega) hd (fun B1 hB1 => ?_))
    have hB1' : SlAt w9 B1 (bys (b.take k)) := by simpa using hB1 w9 (hB.keep hC)
    clear hB1
    go_wp2_with (first | (with_reducible refine stop_box ?_) | (with_reducible refine stop_alloc ?_) | (with_reducible refine stop_load ?_) | (with_reducible refine stop_store ?_) | (with_reducible refine stop_make ?_) | (with_reducible refine stop_lit ?_) | (with_reducible refine stop_append ?_) | (with_reducible refine stop_copy ?_) | (with_reducible refine stop_map ?_) | (with_reducible refine stop_lookup ?_) | (with_reducible refine stop_update ?_) | (with_reducible refine stop_delete ?_) | (with_reducible refine stop_arr ?_) | (with_reducible refine stop_idx ?_) | (with_reducible refine stop_conv (e := 26) (f := 9) ?_) | ((with_reducible refine stopg_box ?hw ?_); case hw => rfl) | ((with_reducible refine stopg_alloc ?hw ?_); case hw => rfl) | ((with_reducible refine stopg_load ?hw ?_); case hw => rfl) | ((with_reducible refine stopg_store ?hw ?_); case hw => rfl) | ((with_reducible refine stopg_make ?hw ?_); case hw => rfl) | ((with_reducible refine stopg_lit ?hw ?_); case hw => rfl) | ((with_reducible refine stopg_append ?hw ?_); case hw => rfl) | ((with_reducible refine stopg_copy ?hw ?_); case hw => rfl) | ((with_reducible refine stopg_map ?hw ?_); case hw => rfl) | ((with_reducible refine stopg_lookup ?hw ?_); case hw => rfl) | ((with_reducible refine stopg_update ?hw ?_); case hw => rfl) | ((with_reducible refine stopg_delete ?hw ?_); case hw => rfl) | ((with_reducible refine stopg_arr ?hw ?_); case hw => rfl) | ((with_reducible refine stopg_conv (e := 26) (f := 9) ?hw ?_); case hw => rfl) | ((with_reducible refine stopg_idx ?hw ?_); case hw => rfl))
    have hY := xor_calls (xorB (a.take k) (b.take k)) (b.take k) A10 B1 c10 d w9 s10 hB1' l10 (by rw [hly.out]; omega) (by rw [xorB_length _ _ (by rw [hlx.out, hly.out]), hlx.out]; omega) (by rw [xorB_length _ _ (by rw [hlx.out, hly.out]), hlx.out, hly.out])
    rw [xorB_twice _ _ (by rw [hlx.out, hly.out]), hly.out] at hY
    have hY' := Lib.hid hY
    clear hY
    refine hY'.out.mono ?_
    rintro e w2 ⟨v2, rfl, H2⟩
    obtain ⟨A12, c12, rfl, l12, s12⟩ := Row.bs (H2.get (k := 0) rfl)
    have k3 := hC.trans H2.kept
    clear H2 e8 e6 hB1' s10 e2 e5 e7 hC
    go_wp2_with (first | (with_reducible refine stop_box ?_) | (with_reducible refine stop_alloc ?_) | (with_reducible refine stop_load ?_) | (with_reducible refine stop_store ?_) | (with_reducible refine stop_make ?_) | (with_reducible refine stop_lit ?_) | (with_reducible refine stop_append ?_) | (with_reducible refine stop_copy ?_) | (with_reducible refine stop_map ?_) | (with_reducible refine stop_lookup ?_) | (with_reducible refine stop_update ?_) | (with_reducible refine stop_delete ?_) | (with_reducible refine stop_arr ?_) | (with_reducible refine stop_idx ?_) | (with_reducible refine stop_conv (e := 26) (f := 9) ?_) | ((with_reducible refine stopg_box ?hw ?_); case hw => rfl) | ((with_reducible refine stopg_alloc ?hw ?_); case hw => rfl) | ((with_reducible refine stopg_load ?hw ?_); case hw => rfl) | ((with_reducible refine stopg_store ?hw ?_); case hw => rfl) | ((with_reducible refine stopg_make ?hw ?_); case hw => rfl) | ((with_reducible refine stopg_lit ?hw ?_); case hw => rfl) | ((with_reducible refine stopg_append ?hw ?_); case hw => rfl) | ((with_reducible refine stopg_copy ?hw ?_); case hw => rfl) | ((with_reducible refine stopg_map ?hw ?_); case hw => rfl) | ((with_reducible refine stopg_lookup ?hw ?_); case hw => rfl) | ((with_reducible refine stopg_update ?hw ?_); case hw => rfl) | ((with_reducible refine stopg_delete ?hw ?_); case hw => rfl) | ((with_reducible refine stopg_arr ?hw ?_); case hw => rfl) | ((with_reducible refine stopg_conv (e := 26) (f := 9) ?hw ?_); case hw => rfl) | ((with_reducible refine stopg_idx ?hw ?_); case hw => rfl))
    refine wp_region_all (n := 86) (fun w' => Kept [] w w' ∧ Kept [] w2 w') (regF [fun v _ => v = .bool true, fun v _ => v = .bool true, fun v _ => v = .int .i64 0, fun v _ => v = .bool true, fun v _ => v = .bool true, fun v _ => v = .bool true, fun v _ => v = .int .i64 0, fun v _ => v = .bool true, fun v _ => v = .bool true, fun v _ => v = .bool true, fun v _ => v = .slice A12 (a.take k).length c12, fun v _ => v = .string ⟨(a.take k).toArray⟩, fun v _ => v = .slice A a.length c, fun v _ => v = .int .i64 k, fun v w' => BsAt w' v (a.take k), fun v _ => v = .string ⟨(a.take k).toArray⟩, fun v _ => v = .bool true, fun v _ => v = .bool true, fun v _ => v = .bool true, fun v _ => v = .int .u64 n, fun v w' => BsAt w' v (lowB n 8), fun v _ => v = .int .u64 n, fun v _ => v = .int .u64 n, fun v _ => v = .bool true, fun v _ => v = .bool true, fun v _ => v = .bool true, fun v _ => v = .int .u64 n, fun v w' => BsAt w' v (highB n 8), fun v _ => v = .int .u64 n, fun v _ => v = .int .u64 n, fun v _ => v = .bool true, fun v _ => v = .bool true, fun v _ => v = .bool true, fun v _ => v = .int .u64 n, fun v w' => BsAt w' v (highB n 2), fun v _ => v = .int .u64 (n % 65536 : Nat), fun v _ => v = .int .u64 n, fun v _ => v = .int .u64 (n % 65536 : Nat), fun v _ => v = .bool true, fun v _ => v = .bool true, fun v _ => v = .bool true]) [[], [(46, 0)], [(47, 1)], [(48, 2), (47, 1)], [(47, 1), (49, 3)], [(50, 4), (47, 1)], [(51, 5)], [(52, 6), (51, 5)], [(51, 5), (53, 7)], [(54, 8), (51, 5)], [(55, 9)], [(56, 10), (55, 9)], [(55, 9)], [(55, 9)], [(58, 12), (59, 13), (55, 9)], [(60, 14), (55, 9)], [(57, 11), (61, 15), (55, 9)], [(55, 9), (62, 16)], [(63, 17), (55, 9)], [(64, 18)], [(65, 19), (64, 18)], [(66, 20), (64, 18)], [(64, 18)], [(67, 21), (68, 22), (64, 18)], [(64, 18), (69, 23)], [(70, 24), (67, 21)], [(71, 25)], [(72, 26), (71, 25)], [(73, 27), (71, 25)], [(71, 25)], [(74, 28), (75, 29), (71, 25)], [(71, 25), (76, 30)], [(77, 31), (74, 28)], [(78, 32)], [(79, 33), (78, 32)], [(80, 34), (78, 32)], [(78, 32)], [(82, 36), (78, 32)], [(81, 35), (83, 37), (78, 32)], [(78, 32), (84, 38)], [(85, 39), (81, 35), (46, 0), (47, 1), (48, 2), (49, 3), (50, 4), (51, 5), (52, 6), (53, 7), (54, 8), (55, 9), (56, 10), (57, 11), (58, 12), (59, 13), (60, 14), (61, 15), (62, 16), (63, 17), (64, 18), (65, 19), (66, 20), (67, 21), (68, 22), (69, 23), (70, 24), (71, 25), (72, 26), (73, 27), (74, 28), (75, 29), (76, 30), (77, 31), (78, 32), (79, 33), (80, 34), (82, 36), (83, 37), (84, 38)]] [(46, 0), (47, 1), (48, 2), (49, 3), (50, 4), (51, 5), (52, 6), (53, 7), (54, 8), (55, 9), (56, 10), (57, 11), (58, 12), (59, 13), (60, 14), (61, 15), (62, 16), (63, 17), (64, 18), (65, 19), (66, 20), (67, 21), (68, 22), (69, 23), (70, 24), (71, 25), (72, 26), (73, 27), (74, 28), (75, 29), (76, 30), (77, 31), (78, 32), (79, 33), (80, 34), (81, 35), (82, 36), (83, 37), (84, 38), (85, 39), (6, 40)] (by kernel_rfl) (by kernel_rfl) rfl ⟨k3.drew, (Kept.refl _ _).drew⟩ (regF_stable ⟨Stable.eq _, Stable.eq _, Stable.eq _, Stable.eq _, Stable.eq _, Stable.eq _, Stable.eq _, Stable.eq _, Stable.eq _, Stable.eq _, Stable.eq _, Stable.eq _, Stable.eq _, Stable.eq _, (fun _ _ hK _ h => BsAt.keep h hK), Stable.eq _, Stable.eq _, Stable.eq _, Stable.eq _, Stable.eq _, (fun _ _ hK _ h => BsAt.keep h hK), Stable.eq _, Stable.eq _, Stable.eq _, Stable.eq _, Stable.eq _, Stable.eq _, (fun _ _ hK _ h => BsAt.keep h hK), Stable.eq _, Stable.eq _, Stable.eq _, Stable.eq _, Stable.eq _, Stable.eq _, (fun _ _ hK _ h => BsAt.keep h hK), Stable.eq _, Stable.eq _, Stable.eq _, Stable.eq _, Stable.eq _, Stable.eq _, trivial⟩) ⟨?_, ?_, ?_, ?_, ?_, ?_, ?_, ?_, ?_, ?_, ?_, ?_, ?_, ?_, ?_, ?_, ?_, ?_, ?_, ?_, ?_, ?_, ?_, ?_, ?_, ?_, ?_, ?_, ?_, ?_, ?_, ?_, ?_, ?_, ?_, ?_, ?_, ?_, ?_, ?_, ?_, trivial⟩ ?_
    · intro vx w9 hC hF
      clear hF
      refine .inl ⟨trivial, ?_⟩
      simp only [putsOf]
      exact opw_val (v := .bool true) (w' := w9) (by go_simp <;> (simp only [IntKind.wrap_u64, IntKind.wrap_i64] <;> omega)) ⟨_, rfl, by simp, hC, (Kept.refl _ _), rfl⟩
    · intro vx w9 hC hF
      have q0 : (vx 0) = .bool true := hF (46, 0) (by simp)
      clear hF
      refine .inl ⟨trivial, ?_⟩
      simp only [putsOf, q0]
      exact opw_val (v := .bool true) (w' := w9) (by go_simp <;> (simp only [IntKind.wrap_u64, IntKind.wrap_i64] <;> omega)) ⟨_, rfl, by simp, hC, (Kept.refl _ _), rfl⟩
    · intro vx w9 hC hF
      have q1 : (vx 1) = .bool true := hF (47, 1) (by simp)
      clear hF
      refine .inl ⟨⟨q1, rfl⟩, ?_⟩
      simp only [putsOf, q1]
      exact opw_val (v := .int .i64 0) (w' := w9) (by go_simp <;> (simp only [IntKind.wrap_u64, IntKind.wrap_i64] <;> omega)) ⟨_, rfl, by simp, hC, (Kept.refl _ _), rfl⟩
    · intro vx w9 hC hF
      have q2 : (vx 2) = .int .i64 0 := hF (48, 2) (by simp)
      have q1 : (vx 1) = .bool true := hF (47, 1) (by simp)
      clear hF
      refine .inl ⟨⟨q1, rfl⟩, ?_⟩
      simp only [putsOf, q2, q1]
      exact opw_val (v := .bool true) (w' := w9) (by go_simp <;> (simp only [IntKind.wrap_u64, IntKind.wrap_i64] <;> omega)) ⟨_, rfl, by simp, hC, (Kept.refl _ _), rfl⟩
    · intro vx w9 hC hF
      have q1 : (vx 1) = .bool true := hF (47, 1) (by simp)
      have q3 : (vx 3) = .bool true := hF (49, 3) (by simp)
      clear hF
      refine .inl ⟨trivial, ?_⟩
      simp only [putsOf, q1, q3]
      exact opw_val (v := .bool true) (w' := w9) (by go_simp <;> (simp only [IntKind.wrap_u64, IntKind.wrap_i64] <;> omega)) ⟨_, rfl, by simp, hC, (Kept.refl _ _), rfl⟩
    · intro vx w9 hC hF
      have q4 : (vx 4) = .bool true := hF (50, 4) (by simp)
      have q1 : (vx 1) = .bool true := hF (47, 1) (by simp)
      clear hF
      refine .inl ⟨trivial, ?_⟩
      simp only [putsOf, q4, q1]
      exact opw_val (v := .bool true) (w' := w9) (by go_simp <;> (simp only [IntKind.wrap_u64, IntKind.wrap_i64] <;> omega)) ⟨_, rfl, by simp, hC, (Kept.refl _ _), rfl⟩
    · intro vx w9 hC hF
      have q5 : (vx 5) = .bool true := hF (51, 5) (by simp)
      clear hF
      refine .inl ⟨⟨q5, rfl⟩, ?_⟩
      simp only [putsOf, q5]
      exact opw_val (v := .int .i64 0) (w' := w9) (by go_simp <;> (simp only [IntKind.wrap_u64, IntKind.wrap_i64] <;> omega)) ⟨_, rfl, by simp, hC, (Kept.refl _ _), rfl⟩
    · intro vx w9 hC hF
      have q6 : (vx 6) = .int .i64 0 := hF (52, 6) (by simp)
      have q5 : (vx 5) = .bool true := hF (51, 5) (by simp)
      clear hF
      refine .inl ⟨⟨q5, rfl⟩, ?_⟩
      simp only [putsOf, q6, q5]
      exact opw_val (v := .bool true) (w' := w9) (by go_simp <;> (simp only [IntKind.wrap_u64, IntKind.wrap_i64] <;> omega)) ⟨_, rfl, by simp, hC, (Kept.refl _ _), rfl⟩
    · intro vx w9 hC hF
      have q5 : (vx 5) = .bool true := hF (51, 5) (by simp)
      have q7 : (vx 7) = .bool true := hF (53, 7) (by simp)
      clear hF
      refine .inl ⟨trivial, ?_⟩
      simp only [putsOf, q5, q7]
      exact opw_val (v := .bool true) (w' := w9) (by go_simp <;> (simp only [IntKind.wrap_u64, IntKind.wrap_i64] <;> omega)) ⟨_, rfl, by simp, hC, (Kept.refl _ _), rfl⟩
    · intro vx w9 hC hF
      have q8 : (vx 8) = .bool true := hF (54, 8) (by simp)
      have q5 : (vx 5) = .bool true := hF (51, 5) (by simp)
      clear hF
      refine .inl ⟨trivial, ?_⟩
      simp only [putsOf, q8, q5]
      exact opw_val (v := .bool true) (w' := w9) (by go_simp <;> (simp only [IntKind.wrap_u64, IntKind.wrap_i64] <;> omega)) ⟨_, rfl, by simp, hC, (Kept.refl _ _), rfl⟩
    · intro vx w9 hC hF
      have q9 : (vx 9) = .bool true := hF (55, 9) (by simp)
      clear hF
      refine .inl ⟨⟨q9, rfl⟩, ?_⟩
      simp only [putsOf, q9]
      exact opw_val (v := .slice A12 (a.take k).length c12) (w' := w9) (by go_simp <;> (simp only [IntKind.wrap_u64, IntKind.wrap_i64] <;> omega)) ⟨_, rfl, by simp, hC, (Kept.refl _ _), rfl⟩
    · intro vx w9 hC hF
      have q10 : (vx 10) = .slice A12 (a.take k).length c12 := hF (56, 10) (by simp)
      have q9 : (vx 9) = .bool true := hF (55, 9) (by simp)
      clear hF
      refine .inl ⟨⟨q9, rfl⟩, ?_⟩
      simp only [putsOf, q10, q9]
      exact opw_str (l := a.take k) Try.underlying26 Try.underlying5 Try.underlying9 rfl (s12.keep hC.2) rfl ⟨_, rfl, by simp, hC, Kept.refl _ _, rfl⟩
    · intro vx w9 hC hF
      have q9 : (vx 9) = .bool true := hF (55, 9) (by simp)
      clear hF
      refine .inl ⟨⟨q9, rfl⟩, ?_⟩
      simp only [putsOf, q9]
      exact opw_val (v := .slice A a.length c) (w' := w9) (by go_simp <;> (simp only [IntKind.wrap_u64, IntKind.wrap_i64] <;> omega)) ⟨_, rfl, by simp, hC, (Kept.refl _ _), rfl⟩
    · intro vx w9 hC hF
      have q9 : (vx 9) = .bool true := hF (55, 9) (by simp)
      clear hF
      refine .inl ⟨⟨q9, rfl⟩, ?_⟩
      simp only [putsOf, q9]
      exact opw_val (v := .int .i64 k) (w' := w9) (by go_simp <;> (simp only [IntKind.wrap_u64, IntKind.wrap_i64] <;> omega)) ⟨_, rfl, by simp, hC, (Kept.refl _ _), rfl⟩
    · intro vx w9 hC hF
      have q12 : (vx 12) = .slice A a.length c := hF (58, 12) (by simp)
      have q13 : (vx 13) = .int .i64 k := hF (59, 13) (by simp)
      have q9 : (vx 9) = .bool true := hF (55, 9) (by simp)
      clear hF
      refine .inl ⟨⟨q9, rfl⟩, ?_⟩
      simp only [putsOf, q12, q13, q9]
      refine opw_sliceB 0 k a Try.underlying26 u8size rfl (.inl ⟨rfl, rfl⟩) (.inr ⟨.i64, _, rfl, rfl⟩) (by omega) (by omega) hc (fun B1 hB1 => ?_)
      exact ⟨_, rfl, by simp, hC, Kept.refl _ _, B1, c, by rw [hlx.out]; simp, by rw [hlx.out]; omega, by simpa using hB1 w9 (hA.keep hC.1)⟩
    · intro vx w9 hC hF
      have q14 : BsAt w9 (vx 14) (a.take k) := hF (60, 14) (by simp)
      have p14 := q14
      obtain ⟨A14, c14, e14, l14, s14⟩ := q14
      have q9 : (vx 9) = .bool true := hF (55, 9) (by simp)
      clear hF
      refine .inl ⟨⟨q9, rfl⟩, ?_⟩
      simp only [putsOf, e14, q9]
      exact opw_str (l := a.take k) Try.underlying26 Try.underlying5 Try.underlying9 rfl (s14) rfl ⟨_, rfl, by simp, hC, Kept.refl _ _, rfl⟩
    · intro vx w9 hC hF
      have q11 : (vx 11) = .string ⟨(a.take k).toArray⟩ := hF (57, 11) (by simp)
      have q15 : (vx 15) = .string ⟨(a.take k).toArray⟩ := hF (61, 15) (by simp)
      have q9 : (vx 9) = .bool true := hF (55, 9) (by simp)
      clear hF
      refine .inl ⟨⟨q9, rfl⟩, ?_⟩
      simp only [putsOf, q11, q15, q9]
      exact opw_val (v := .bool true) (w' := w9) (by go_simp <;> (simp only [IntKind.wrap_u64, IntKind.wrap_i64] <;> omega)) ⟨_, rfl, by simp, hC, (Kept.refl _ _), rfl⟩
    · intro vx w9 hC hF
      have q9 : (vx 9) = .bool true := hF (55, 9) (by simp)
      have q16 : (vx 16) = .bool true := hF (62, 16) (by simp)
      clear hF
      refine .inl ⟨trivial, ?_⟩
      simp only [putsOf, q9, q16]
      exact opw_val (v := .bool true) (w' := w9) (by go_simp <;> (simp only [IntKind.wrap_u64, IntKind.wrap_i64] <;> omega)) ⟨_, rfl, by simp, hC, (Kept.refl _ _), rfl⟩
    · intro vx w9 hC hF
      have q17 : (vx 17) = .bool true := hF (63, 17) (by simp)
      have q9 : (vx 9) = .bool true := hF (55, 9) (by simp)
      clear hF
      refine .inl ⟨trivial, ?_⟩
      simp only [putsOf, q17, q9]
      exact opw_val (v := .bool true) (w' := w9) (by go_simp <;> (simp only [IntKind.wrap_u64, IntKind.wrap_i64] <;> omega)) ⟨_, rfl, by simp, hC, (Kept.refl _ _), rfl⟩
    · intro vx w9 hC hF
      have q18 : (vx 18) = .bool true := hF (64, 18) (by simp)
      clear hF
      refine .inl ⟨⟨q18, rfl⟩, ?_⟩
      simp only [putsOf, q18]
      exact opw_val (v := .int .u64 n) (w' := w9) (by go_simp <;> (simp only [IntKind.wrap_u64, IntKind.wrap_i64] <;> omega)) ⟨_, rfl, by simp, hC, (Kept.refl _ _), rfl⟩
    · intro vx w9 hC hF
      have q19 : (vx 19) = .int .u64 n := hF (65, 19) (by simp)
      have q18 : (vx 18) = .bool true := hF (64, 18) (by simp)
      clear hF
      refine .inl ⟨⟨q18, rfl⟩, ?_⟩
      simp only [putsOf, q19, q18]
      refine opw_call [.int .u64 n, .int .i64 8] Try.func21 rfl (by kernel_rfl) rfl ?_
      refine (low_calls n 8 8 rfl (by omega) w9).mono ?_
      rintro e w1 ⟨v, rfl, H1⟩
      exact ⟨_, rfl, _, rfl, by simp, (by first | exact hC.trans H1.kept | exact ⟨hC.1.trans H1.kept, hC.2.trans H1.kept⟩), H1.kept, Row.bs (H1.get (k := 0) rfl)⟩
    · intro vx w9 hC hF
      have q20 : BsAt w9 (vx 20) (lowB n 8) := hF (66, 20) (by simp)
      have p20 := q20
      obtain ⟨A20, c20, e20, l20, s20⟩ := q20
      have q18 : (vx 18) = .bool true := hF (64, 18) (by simp)
      clear hF
      refine .inl ⟨⟨q18, rfl⟩, ?_⟩
      simp only [putsOf, e20, q18]
      refine opw_call [.slice A20 (lowB n 8).length c20] Try.func17 rfl (by kernel_rfl) rfl ?_
      refine (ofLow_low_calls n hn A20 c20 w9 s20 l20).mono ?_
      rintro e w1 ⟨rfl, h1⟩
      have h2 : Kept [] w9 w1 := by first | exact h1 | (subst h1; exact Kept.refl _ _)
      exact ⟨_, rfl, _, rfl, by simp, (by first | exact hC.trans h2 | exact ⟨hC.1.trans h2, hC.2.trans h2⟩), h2, rfl⟩
    · intro vx w9 hC hF
      have q18 : (vx 18) = .bool true := hF (64, 18) (by simp)
      clear hF
      refine .inl ⟨⟨q18, rfl⟩, ?_⟩
      simp only [putsOf, q18]
      exact opw_val (v := .int .u64 n) (w' := w9) (by go_simp <;> (simp only [IntKind.wrap_u64, IntKind.wrap_i64] <;> omega)) ⟨_, rfl, by simp, hC, (Kept.refl _ _), rfl⟩
    · intro vx w9 hC hF
      have q21 : (vx 21) = .int .u64 n := hF (67, 21) (by simp)
      have q22 : (vx 22) = .int .u64 n := hF (68, 22) (by simp)
      have q18 : (vx 18) = .bool true := hF (64, 18) (by simp)
      clear hF
      refine .inl ⟨⟨q18, rfl⟩, ?_⟩
      simp only [putsOf, q21, q22, q18]
      exact opw_val (v := .bool true) (w' := w9) (by go_simp <;> (simp only [IntKind.wrap_u64, IntKind.wrap_i64] <;> omega)) ⟨_, rfl, by simp, hC, (Kept.refl _ _), rfl⟩
    · intro vx w9 hC hF
      have q18 : (vx 18) = .bool true := hF (64, 18) (by simp)
      have q23 : (vx 23) = .bool true := hF (69, 23) (by simp)
      clear hF
      refine .inl ⟨trivial, ?_⟩
      simp only [putsOf, q18, q23]
      exact opw_val (v := .bool true) (w' := w9) (by go_simp <;> (simp only [IntKind.wrap_u64, IntKind.wrap_i64] <;> omega)) ⟨_, rfl, by simp, hC, (Kept.refl _ _), rfl⟩
    · intro vx w9 hC hF
      have q24 : (vx 24) = .bool true := hF (70, 24) (by simp)
      have q21 : (vx 21) = .int .u64 n := hF (67, 21) (by simp)
      clear hF
      refine .inl ⟨trivial, ?_⟩
      simp only [putsOf, q24, q21]
      exact opw_val (v := .bool true) (w' := w9) (by go_simp <;> (simp only [IntKind.wrap_u64, IntKind.wrap_i64] <;> omega)) ⟨_, rfl, by simp, hC, (Kept.refl _ _), rfl⟩
    · intro vx w9 hC hF
      have q25 : (vx 25) = .bool true := hF (71, 25) (by simp)
      clear hF
      refine .inl ⟨⟨q25, rfl⟩, ?_⟩
      simp only [putsOf, q25]
      exact opw_val (v := .int .u64 n) (w' := w9) (by go_simp <;> (simp only [IntKind.wrap_u64, IntKind.wrap_i64] <;> omega)) ⟨_, rfl, by simp, hC, (Kept.refl _ _), rfl⟩
    · intro vx w9 hC hF
      have q26 : (vx 26) = .int .u64 n := hF (72, 26) (by simp)
      have q25 : (vx 25) = .bool true := hF (71, 25) (by simp)
      clear hF
      refine .inl ⟨⟨q25, rfl⟩, ?_⟩
      simp only [putsOf, q26, q25]
      refine opw_call [.int .u64 n, .int .i64 8] Try.func23 rfl (by kernel_rfl) rfl ?_
      refine (high_calls n 8 8 rfl (by omega) w9).mono ?_
      rintro e w1 ⟨v, rfl, H1⟩
      exact ⟨_, rfl, _, rfl, by simp, (by first | exact hC.trans H1.kept | exact ⟨hC.1.trans H1.kept, hC.2.trans H1.kept⟩), H1.kept, Row.bs (H1.get (k := 0) rfl)⟩
    · intro vx w9 hC hF
      have q27 : BsAt w9 (vx 27) (highB n 8) := hF (73, 27) (by simp)
      have p27 := q27
      obtain ⟨A27, c27, e27, l27, s27⟩ := q27
      have q25 : (vx 25) = .bool true := hF (71, 25) (by simp)
      clear hF
      refine .inl ⟨⟨q25, rfl⟩, ?_⟩
      simp only [putsOf, e27, q25]
      refine opw_call [.slice A27 (highB n 8).length c27] Try.func19 rfl (by kernel_rfl) rfl ?_
      refine (ofHigh_high8_calls n hn A27 c27 w9 s27 l27).mono ?_
      rintro e w1 ⟨rfl, h1⟩
      have h2 : Kept [] w9 w1 := by first | exact h1 | (subst h1; exact Kept.refl _ _)
      exact ⟨_, rfl, _, rfl, by simp, (by first | exact hC.trans h2 | exact ⟨hC.1.trans h2, hC.2.trans h2⟩), h2, rfl⟩
    · intro vx w9 hC hF
      have q25 : (vx 25) = .bool true := hF (71, 25) (by simp)
      clear hF
      refine .inl ⟨⟨q25, rfl⟩, ?_⟩
      simp only [putsOf, q25]
      exact opw_val (v := .int .u64 n) (w' := w9) (by go_simp <;> (simp only [IntKind.wrap_u64, IntKind.wrap_i64] <;> omega)) ⟨_, rfl, by simp, hC, (Kept.refl _ _), rfl⟩
    · intro vx w9 hC hF
      have q28 : (vx 28) = .int .u64 n := hF (74, 28) (by simp)
      have q29 : (vx 29) = .int .u64 n := hF (75, 29) (by simp)
      have q25 : (vx 25) = .bool true := hF (71, 25) (by simp)
      clear hF
      refine .inl ⟨⟨q25, rfl⟩, ?_⟩
      simp only [putsOf, q28, q29, q25]
      exact opw_val (v := .bool true) (w' := w9) (by go_simp <;> (simp only [IntKind.wrap_u64, IntKind.wrap_i64] <;> omega)) ⟨_, rfl, by simp, hC, (Kept.refl _ _), rfl⟩
    · intro vx w9 hC hF
      have q25 : (vx 25) = .bool true := hF (71, 25) (by simp)
      have q30 : (vx 30) = .bool true := hF (76, 30) (by simp)
      clear hF
      refine .inl ⟨trivial, ?_⟩
      simp only [putsOf, q25, q30]
      exact opw_val (v := .bool true) (w' := w9) (by go_simp <;> (simp only [IntKind.wrap_u64, IntKind.wrap_i64] <;> omega)) ⟨_, rfl, by simp, hC, (Kept.refl _ _), rfl⟩
    · intro vx w9 hC hF
      have q31 : (vx 31) = .bool true := hF (77, 31) (by simp)
      have q28 : (vx 28) = .int .u64 n := hF (74, 28) (by simp)
      clear hF
      refine .inl ⟨trivial, ?_⟩
      simp only [putsOf, q31, q28]
      exact opw_val (v := .bool true) (w' := w9) (by go_simp <;> (simp only [IntKind.wrap_u64, IntKind.wrap_i64] <;> omega)) ⟨_, rfl, by simp, hC, (Kept.refl _ _), rfl⟩
    · intro vx w9 hC hF
      have q32 : (vx 32) = .bool true := hF (78, 32) (by simp)
      clear hF
      refine .inl ⟨⟨q32, rfl⟩, ?_⟩
      simp only [putsOf, q32]
      exact opw_val (v := .int .u64 n) (w' := w9) (by go_simp <;> (simp only [IntKind.wrap_u64, IntKind.wrap_i64] <;> omega)) ⟨_, rfl, by simp, hC, (Kept.refl _ _), rfl⟩
    · intro vx w9 hC hF
      have q33 : (vx 33) = .int .u64 n := hF (79, 33) (by simp)
      have q32 : (vx 32) = .bool true := hF (78, 32) (by simp)
      clear hF
      refine .inl ⟨⟨q32, rfl⟩, ?_⟩
      simp only [putsOf, q33, q32]
      refine opw_call [.int .u64 n, .int .i64 2] Try.func23 rfl (by kernel_rfl) rfl ?_
      refine (high_calls n 2 2 rfl (by omega) w9).mono ?_
      rintro e w1 ⟨v, rfl, H1⟩
      exact ⟨_, rfl, _, rfl, by simp, (by first | exact hC.trans H1.kept | exact ⟨hC.1.trans H1.kept, hC.2.trans H1.kept⟩), H1.kept, Row.bs (H1.get (k := 0) rfl)⟩
    · intro vx w9 hC hF
      have q34 : BsAt w9 (vx 34) (highB n 2) := hF (80, 34) (by simp)
      have p34 := q34
      obtain ⟨A34, c34, e34, l34, s34⟩ := q34
      have q32 : (vx 32) = .bool true := hF (78, 32) (by simp)
      clear hF
      refine .inl ⟨⟨q32, rfl⟩, ?_⟩
      simp only [putsOf, e34, q32]
      refine opw_call [.slice A34 (highB n 2).length c34] Try.func19 rfl (by kernel_rfl) rfl ?_
      refine (ofHigh_high2_calls n A34 c34 w9 s34 l34).mono ?_
      rintro e w1 ⟨rfl, h1⟩
      have h2 : Kept [] w9 w1 := by first | exact h1 | (subst h1; exact Kept.refl _ _)
      exact ⟨_, rfl, _, rfl, by simp, (by first | exact hC.trans h2 | exact ⟨hC.1.trans h2, hC.2.trans h2⟩), h2, rfl⟩
    · intro vx w9 hC hF
      have q32 : (vx 32) = .bool true := hF (78, 32) (by simp)
      clear hF
      refine .inl ⟨⟨q32, rfl⟩, ?_⟩
      simp only [putsOf, q32]
      exact opw_val (v := .int .u64 n) (w' := w9) (by go_simp <;> (simp only [IntKind.wrap_u64, IntKind.wrap_i64] <;> omega)) ⟨_, rfl, by simp, hC, (Kept.refl _ _), rfl⟩
    · intro vx w9 hC hF
      have q36 : (vx 36) = .int .u64 n := hF (82, 36) (by simp)
      have q32 : (vx 32) = .bool true := hF (78, 32) (by simp)
      clear hF
      refine .inl ⟨⟨q32, rfl⟩, ?_⟩
      simp only [putsOf, q36, q32]
      exact opw_val (v := .int .u64 (n % 65536 : Nat)) (w' := w9) (by go_simp <;> first | rfl | omega | (simp only [IntKind.wrap_u64] <;> omega) | (congr 3 <;> omega) | (trace_state; sorry)) ⟨_, rfl, by simp, hC, Kept.refl _ _, rfl⟩
    · intro vx w9 hC hF
      have q35 : (vx 35) = .int .u64 (n % 65536 : Nat) := hF (81, 35) (by simp)
      have q37 : (vx 37) = .int .u64 (n % 65536 : Nat) := hF (83, 37) (by simp)
      have q32 : (vx 32) = .bool true := hF (78, 32) (by simp)
      clear hF
      refine .inl ⟨⟨q32, rfl⟩, ?_⟩
      simp only [putsOf, q35, q37, q32]
      exact opw_val (v := .bool true) (w' := w9) (by go_simp <;> (simp only [IntKind.wrap_u64, IntKind.wrap_i64] <;> omega)) ⟨_, rfl, by simp, hC, (Kept.refl _ _), rfl⟩
    · intro vx w9 hC hF
      have q32 : (vx 32) = .bool true := hF (78, 32) (by simp)
      have q38 : (vx 38) = .bool true := hF (84, 38) (by simp)
      clear hF
      refine .inl ⟨trivial, ?_⟩
      simp only [putsOf, q32, q38]
      exact opw_val (v := .bool true) (w' := w9) (by go_simp <;> (simp only [IntKind.wrap_u64, IntKind.wrap_i64] <;> omega)) ⟨_, rfl, by simp, hC, (Kept.refl _ _), rfl⟩
    · intro vx w9 hC hF
      have q39 : (vx 39) = .bool true := hF (85, 39) (by simp)
      have q35 : (vx 35) = .int .u64 (n % 65536 : Nat) := hF (81, 35) (by simp)
      have q0 : (vx 0) = .bool true := hF (46, 0) (by simp)
      have q1 : (vx 1) = .bool true := hF (47, 1) (by simp)
      have q2 : (vx 2) = .int .i64 0 := hF (48, 2) (by simp)
      have q3 : (vx 3) = .bool true := hF (49, 3) (by simp)
      have q4 : (vx 4) = .bool true := hF (50, 4) (by simp)
      have q5 : (vx 5) = .bool true := hF (51, 5) (by simp)
      have q6 : (vx 6) = .int .i64 0 := hF (52, 6) (by simp)
      have q7 : (vx 7) = .bool true := hF (53, 7) (by simp)
      have q8 : (vx 8) = .bool true := hF (54, 8) (by simp)
      have q9 : (vx 9) = .bool true := hF (55, 9) (by simp)
      have q10 : (vx 10) = .slice A12 (a.take k).length c12 := hF (56, 10) (by simp)
      have q11 : (vx 11) = .string ⟨(a.take k).toArray⟩ := hF (57, 11) (by simp)
      have q12 : (vx 12) = .slice A a.length c := hF (58, 12) (by simp)
      have q13 : (vx 13) = .int .i64 k := hF (59, 13) (by simp)
      have q14 : BsAt w9 (vx 14) (a.take k) := hF (60, 14) (by simp)
      have p14 := q14
      obtain ⟨A14, c14, e14, l14, s14⟩ := q14
      have q15 : (vx 15) = .string ⟨(a.take k).toArray⟩ := hF (61, 15) (by simp)
      have q16 : (vx 16) = .bool true := hF (62, 16) (by simp)
      have q17 : (vx 17) = .bool true := hF (63, 17) (by simp)
      have q18 : (vx 18) = .bool true := hF (64, 18) (by simp)
      have q19 : (vx 19) = .int .u64 n := hF (65, 19) (by simp)
      have q20 : BsAt w9 (vx 20) (lowB n 8) := hF (66, 20) (by simp)
      have p20 := q20
      obtain ⟨A20, c20, e20, l20, s20⟩ := q20
      have q21 : (vx 21) = .int .u64 n := hF (67, 21) (by simp)
      have q22 : (vx 22) = .int .u64 n := hF (68, 22) (by simp)
      have q23 : (vx 23) = .bool true := hF (69, 23) (by simp)
      have q24 : (vx 24) = .bool true := hF (70, 24) (by simp)
      have q25 : (vx 25) = .bool true := hF (71, 25) (by simp)
      have q26 : (vx 26) = .int .u64 n := hF (72, 26) (by simp)
      have q27 : BsAt w9 (vx 27) (highB n 8) := hF (73, 27) (by simp)
      have p27 := q27
      obtain ⟨A27, c27, e27, l27, s27⟩ := q27
      have q28 : (vx 28) = .int .u64 n := hF (74, 28) (by simp)
      have q29 : (vx 29) = .int .u64 n := hF (75, 29) (by simp)
      have q30 : (vx 30) = .bool true := hF (76, 30) (by simp)
      have q31 : (vx 31) = .bool true := hF (77, 31) (by simp)
      have q32 : (vx 32) = .bool true := hF (78, 32) (by simp)
      have q33 : (vx 33) = .int .u64 n := hF (79, 33) (by simp)
      have q34 : BsAt w9 (vx 34) (highB n 2) := hF (80, 34) (by simp)
      have p34 := q34
      obtain ⟨A34, c34, e34, l34, s34⟩ := q34
      have q36 : (vx 36) = .int .u64 n := hF (82, 36) (by simp)
      have q37 : (vx 37) = .int .u64 (n % 65536 : Nat) := hF (83, 37) (by simp)
      have q38 : (vx 38) = .bool true := hF (84, 38) (by simp)
      clear hF
      refine .inl ⟨trivial, ?_⟩
      simp only [putsOf, q39, q35, q0, q1, q2, q3, q4, q5, q6, q7, q8, q9, q10, q11, q12, q13, e14, q15, q16, q17, q18, q19, e20, q21, q22, q23, q24, q25, q26, e27, q28, q29, q30, q31, q32, q33, e34, q36, q37, q38]
      exact opw_val (v := .bool true) (w' := w9) (by go_simp <;> (simp only [IntKind.wrap_u64, IntKind.wrap_i64] <;> omega)) ⟨_, rfl, by simp, hC, (Kept.refl _ _), rfl⟩
    intro vx w9 hC hF
    have q0 : (vx 0) = .bool true := hF 0 (by simp)
    have q1 : (vx 1) = .bool true := hF 1 (by simp)
    have q2 : (vx 2) = .int .i64 0 := hF 2 (by simp)
    have q3 : (vx 3) = .bool true := hF 3 (by simp)
    have q4 : (vx 4) = .bool true := hF 4 (by simp)
    have q5 : (vx 5) = .bool true := hF 5 (by simp)
    have q6 : (vx 6) = .int .i64 0 := hF 6 (by simp)
    have q7 : (vx 7) = .bool true := hF 7 (by simp)
    have q8 : (vx 8) = .bool true := hF 8 (by simp)
    have q9 : (vx 9) = .bool true := hF 9 (by simp)
    have q10 : (vx 10) = .slice A12 (a.take k).length c12 := hF 10 (by simp)
    have q11 : (vx 11) = .string ⟨(a.take k).toArray⟩ := hF 11 (by simp)
    have q12 : (vx 12) = .slice A a.length c := hF 12 (by simp)
    have q13 : (vx 13) = .int .i64 k := hF 13 (by simp)
    have q14 : BsAt w9 (vx 14) (a.take k) := hF 14 (by simp)
    have p14 := q14
    obtain ⟨A14, c14, e14, l14, s14⟩ := q14
    have q15 : (vx 15) = .string ⟨(a.take k).toArray⟩ := hF 15 (by simp)
    have q16 : (vx 16) = .bool true := hF 16 (by simp)
    have q17 : (vx 17) = .bool true := hF 17 (by simp)
    have q18 : (vx 18) = .bool true := hF 18 (by simp)
    have q19 : (vx 19) = .int .u64 n := hF 19 (by simp)
    have q20 : BsAt w9 (vx 20) (lowB n 8) := hF 20 (by simp)
    have p20 := q20
    obtain ⟨A20, c20, e20, l20, s20⟩ := q20
    have q21 : (vx 21) = .int .u64 n := hF 21 (by simp)
    have q22 : (vx 22) = .int .u64 n := hF 22 (by simp)
    have q23 : (vx 23) = .bool true := hF 23 (by simp)
    have q24 : (vx 24) = .bool true := hF 24 (by simp)
    have q25 : (vx 25) = .bool true := hF 25 (by simp)
    have q26 : (vx 26) = .int .u64 n := hF 26 (by simp)
    have q27 : BsAt w9 (vx 27) (highB n 8) := hF 27 (by simp)
    have p27 := q27
    obtain ⟨A27, c27, e27, l27, s27⟩ := q27
    have q28 : (vx 28) = .int .u64 n := hF 28 (by simp)
    have q29 : (vx 29) = .int .u64 n := hF 29 (by simp)
    have q30 : (vx 30) = .bool true := hF 30 (by simp)
    have q31 : (vx 31) = .bool true := hF 31 (by simp)
    have q32 : (vx 32) = .bool true := hF 32 (by simp)
    have q33 : (vx 33) = .int .u64 n := hF 33 (by simp)
    have q34 : BsAt w9 (vx 34) (highB n 2) := hF 34 (by simp)
    have p34 := q34
    obtain ⟨A34, c34, e34, l34, s34⟩ := q34
    have q35 : (vx 35) = .int .u64 (n % 65536 : Nat) := hF 35 (by simp)
    have q36 : (vx 36) = .int .u64 n := hF 36 (by simp)
    have q37 : (vx 37) = .int .u64 (n % 65536 : Nat) := hF 37 (by simp)
    have q38 : (vx 38) = .bool true := hF 38 (by simp)
    have q39 : (vx 39) = .bool true := hF 39 (by simp)
    have q40 : (vx 40) = .bool true := hF 40 (by simp)
    clear hF
    simp only [putsOf, q0, q1, q2, q3, q4, q5, q6, q7, q8, q9, q10, q11, q12, q13, e14, q15, q16, q17, q18, q19, e20, q21, q22, q23, q24, q25, q26, e27, q28, q29, q30, q31, q32, q33, e34, q35, q36, q37, q38, q39, q40]
    simp only [Act.put, List.setIfInBounds_toArray, List.set_cons_succ, List.set_cons_zero]
    clear q0 q1 q2 q3 q4 q5 q6 q7 q8 q9 q10 q11 q12 q13 q15 q16 q17 q18 q19 q21 q22 q23 q24 q25 q26 q28 q29 q30 q31 q32 q33 q35 q36 q37 q38 q39 q40
    go_wp2_with (first | (with_reducible refine stop_box ?_) | (with_reducible refine stop_alloc ?_) | (with_reducible refine stop_load ?_) | (with_reducible refine stop_store ?_) | (with_reducible refine stop_make ?_) | (with_reducible refine stop_lit ?_) | (with_reducible refine stop_append ?_) | (with_reducible refine stop_copy ?_) | (with_reducible refine stop_map ?_) | (with_reducible refine stop_lookup ?_) | (with_reducible refine stop_update ?_) | (with_reducible refine stop_delete ?_) | (with_reducible refine stop_arr ?_) | (with_reducible refine stop_idx ?_) | (with_reducible refine stop_conv (e := 26) (f := 9) ?_) | ((with_reducible refine stopg_box ?hw ?_); case hw => rfl) | ((with_reducible refine stopg_alloc ?hw ?_); case hw => rfl) | ((with_reducible refine stopg_load ?hw ?_); case hw => rfl) | ((with_reducible refine stopg_store ?hw ?_); case hw => rfl) | ((with_reducible refine stopg_make ?hw ?_); case hw => rfl) | ((with_reducible refine stopg_lit ?hw ?_); case hw => rfl) | ((with_reducible refine stopg_append ?hw ?_); case hw => rfl) | ((with_reducible refine stopg_copy ?hw ?_); case hw => rfl) | ((with_reducible refine stopg_map ?hw ?_); case hw => rfl) | ((with_reducible refine stopg_lookup ?hw ?_); case hw => rfl) | ((with_reducible refine stopg_update ?hw ?_); case hw => rfl) | ((with_reducible refine stopg_delete ?hw ?_); case hw => rfl) | ((with_reducible refine stopg_arr ?hw ?_); case hw => rfl) | ((with_reducible refine stopg_conv (e := 26) (f := 9) ?hw ?_); case hw => rfl) | ((with_reducible refine stopg_idx ?hw ?_); case hw => rfl))
    go_ret
    exact ⟨rfl, hC.1⟩
  · have hl' : (decide (500 < (a.length : Int)) || decide (500 < (b.length : Int))) = true := by
      simp only [Bool.or_eq_true, decide_eq_true_eq]; omega
    cases ha : decide (500 < (a.length : Int)) <;> cases hb : decide (500 < (b.length : Int)) <;> rw [ha, hb] at hl' <;> clear hl
    all_goals first
      | (simp at hl'; done)
      | (clear hl'
         go_wp2_with (first | (with_reducible refine stop_box ?_) | (with_reducible refine stop_alloc ?_) | (with_reducible refine stop_load ?_) | (with_reducible refine stop_store ?_) | (with_reducible refine stop_make ?_) | (with_reducible refine stop_lit ?_) | (with_reducible refine stop_append ?_) | (with_reducible refine stop_copy ?_) | (with_reducible refine stop_map ?_) | (with_reducible refine stop_lookup ?_) | (with_reducible refine stop_update ?_) | (with_reducible refine stop_delete ?_) | (with_reducible refine stop_arr ?_) | (with_reducible refine stop_idx ?_) | (with_reducible refine stop_conv (e := 26) (f := 9) ?_) | ((with_reducible refine stopg_box ?hw ?_); case hw => rfl) | ((with_reducible refine stopg_alloc ?hw ?_); case hw => rfl) | ((with_reducible refine stopg_load ?hw ?_); case hw => rfl) | ((with_reducible refine stopg_store ?hw ?_); case hw => rfl) | ((with_reducible refine stopg_make ?hw ?_); case hw => rfl) | ((with_reducible refine stopg_lit ?hw ?_); case hw => rfl) | ((with_reducible refine stopg_append ?hw ?_); case hw => rfl) | ((with_reducible refine stopg_copy ?hw ?_); case hw => rfl) | ((with_reducible refine stopg_map ?hw ?_); case hw => rfl) | ((with_reducible refine stopg_lookup ?hw ?_); case hw => rfl) | ((with_reducible refine stopg_update ?hw ?_); case hw => rfl) | ((with_reducible refine stopg_delete ?hw ?_); case hw => rfl) | ((with_reducible refine stopg_arr ?hw ?_); case hw => rfl) | ((with_reducible refine stopg_conv (e := 26) (f := 9) ?hw ?_); case hw => rfl) | ((with_reducible refine stopg_idx ?hw ?_); case hw => rfl))
         go_ret
         exact ⟨rfl, k1⟩)

namespace octetsTwice
open Go.ChangeShapes Go.WideShapes Go.ChangeAt Go.RowKit
theorem own : ownKnob Try.prog.godebug = none := by kernel_rfl
theorem laidOut : laidOutB Try.prog = true := by kernel_rfl
set_option maxRecDepth 100000 in
theorem lifted (os : Os) (started : os.Started) (H : Type) (enc : TypeId × Value → H) :
    ReturnsInHanded {} Try.checked os 6 .any (Rows.octetsTwiceSpec.pre6 enc Try.prog Try.f6 Rows.octetsTwiceRow.domain false) (Rows.octetsTwiceSpec.post enc Try.prog Try.f6 false true false false) := by
  refine returnsInHanded_of_change (C := Try.checked) own started (by kernel_rfl) Try.func6
    (ChangeSpec.witness6 (enc := enc) (C := Try.checked) false ⟨#[], #[.slice none 0 0, .slice none 0 0, .int .u64 0], []⟩ 8 (by kernel_rfl) (by kernel_rfl) (by kernel_rfl) (by kernel_rfl)) ?_
  intro W base args ds gs before hval0 hW hcnd _
  have hval : ∀ (j : Nat) t v, Try.f6.params[j]? = some t → args[j]? = some v → Value.okWide Try.prog W .any base t v := hval0
  have hW' := hW
  obtain ⟨p, q, hA0, hV, rfl, hfz, hnd⟩ := hW
  have hA : DataW.TrodAll enc Try.prog W 0 (fun _ => true) true Try.f6.params.toList args.toList ds p := hA0
  rw [Try.params6] at hA hval
  obtain ⟨v0, vs0, d0, ds0, p0, q0, hargs, rfl, rfl, h0, r0⟩ := trodAll_cons hA
  obtain ⟨v1, vs1, d1, ds1, p1, q1, rfl, rfl, rfl, h1, r1⟩ := trodAll_cons r0
  obtain ⟨v2, vs2, d2, ds2, p2, q2, rfl, rfl, rfl, h2, r2⟩ := trodAll_cons r1
  obtain ⟨rfl, rfl, rfl⟩ := trodAll_nil r2
  obtain rfl : args = #[v0, v1, v2] := by cases args; simp_all
  obtain ⟨rfl, rfl⟩ := trodVars_none hV
  have k0 := h0
  have lt0 : ∀ x ∈ p0, x.block < W.heap.size := by obtain ⟨m, hm⟩ := k0; exact DataW.trod_lt m _ _ _ hm
  have k1 := h1
  have lt1 : ∀ x ∈ p1, x.block < W.heap.size := by obtain ⟨m, hm⟩ := k1; exact DataW.trod_lt m _ _ _ hm
  have k2 := h2
  have lt2 : ∀ x ∈ p2, x.block < W.heap.size := by obtain ⟨m, hm⟩ := k2; exact DataW.trod_lt m _ _ _ hm
  obtain ⟨l0, g0⟩ := open_bytes Try.underlying26 Try.underlying5 (by kernel_rfl) (hval 0 26 v0 rfl rfl) h0
  obtain ⟨l1, g1⟩ := open_bytes Try.underlying26 Try.underlying5 (by kernel_rfl) (hval 1 26 v1 rfl rfl) h1
  obtain ⟨n2, rfl, _, _, g2⟩ := open_int Try.underlying28 (hval 2 28 v2 rfl rfl) h2
  clear hA0 hval0
  refine (octetsTwice.walk W v0 l0 g0 v1 l1 g1 n2 g2).mono fun e W' ⟨he, hK⟩ => ?_
  subst he
  have bel := hK.below
  exact ⟨_, rfl, _, _, _, [], _, [], hW', trodAll_mk1 (shut_bool Try.underlying4 _), (trodAll_cons_mk (Below.trod laidOut (by kernel_rfl) (of_decide_eq_true (by kernel_rfl)) k0 bel lt0) (trodAll_cons_mk (Below.trod laidOut (by kernel_rfl) (of_decide_eq_true (by kernel_rfl)) k1 bel lt1) (trodAll_cons_mk (Below.trod laidOut (by kernel_rfl) (of_decide_eq_true (by kernel_rfl)) k2 bel lt2) trodAll_mk0))), rfl, bel.frame _, fun h => by cases h⟩
theorem over : Rows.octetsTwiceRow.holds Try.pinned (OpenSpec.ofChange Rows.octetsTwiceSpec) :=
  OpenClaim.holds_of_wide 6 Try.f6 rfl rfl rfl rfl rfl rfl rfl ⟨rfl, rfl, rfl, rfl, rfl⟩ rfl rfl rfl rfl rfl (by kernel_rfl) Try.func6 (by kernel_rfl)
    (of_decide_eq_true (by kernel_rfl)) (by unfold Func.isWrapper; first | (rw [if_pos (by decide +kernel)]; kernel_rfl) | (rw [if_neg (by decide +kernel)]; exact ⟨rfl, rfl⟩))
    (fun os started H enc _ => lifted os started H enc)
theorem proved : Rows.OctetsTwiceSaid := over
end octetsTwice
/-- The row. -/
theorem octetsTwice_holds : Rows.OctetsTwiceSaid := octetsTwice.proved
#print axioms octetsTwice_holds
end Go.Proofs.Ythdendffngihbaa
