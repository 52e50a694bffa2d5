/- Whether rows are the same, turned, and numbers' bytes, are the document's: the statement OctetsTells. No condition. -/
import Derived.Test.YthdendffngihbaaQ01
namespace Go.Proofs.Ythdendffngihbaa
open Go.RowKit Go.PBYthdendffngihbaa
set_option linter.unusedVariables false
set_option linter.unusedSimpArgs false
set_option maxRecDepth 10000

set_option maxHeartbeats 3200000 in
theorem octetsTells.walk (w : World) (v0 : Value) (a : List UInt8) (h0 : BsArg w v0 a) (v1 : Value) (b : List UInt8) (h1 : BsArg w v1 b) (n0 : Int) (hn0 : (Lit.int .u64 n0).wf = true) :
    Calls Try.prog 5 #[v0, v1, .int .u64 n0] w fun e w' => e = .returned (.bool true) ∧ Kept [] w w' := by
  obtain ⟨A, c, rfl, hc, hc2, hA⟩ := h0
  obtain ⟨B, d, rfl, hd, hd2, hB⟩ := h1
  obtain ⟨n, rfl, hn⟩ : ∃ n : Nat, n0 = n ∧ n < 18446744073709551616 := by
    simp only [Lit.wf, Bool.and_eq_true, decide_eq_true_eq] at hn0
    have h1 : IntKind.u64.min = 0 := rfl
    have h2 : IntKind.u64.max = 18446744073709551615 := rfl
    exact ⟨n0.toNat, by omega, by omega⟩
  clear hn0
  go_enter Try.func5, Try.ntmps5
  go_wp2_with (first | (with_reducible refine stop_box ?_) | (with_reducible refine stop_alloc ?_) | (with_reducible refine stop_load ?_) | (with_reducible refine stop_store ?_) | (with_reducible refine stop_make ?_) | (with_reducible refine stop_lit ?_) | (with_reducible refine stop_append ?_) | (with_reducible refine stop_copy ?_) | (with_reducible refine stop_map ?_) | (with_reducible refine stop_lookup ?_) | (with_reducible refine stop_update ?_) | (with_reducible refine stop_delete ?_) | (with_reducible refine stop_arr ?_) | (with_reducible refine stop_idx ?_) | (with_reducible refine stop_conv (e := 26) (f := 9) ?_) | ((with_reducible refine stopg_box ?hw ?_); case hw => rfl) | ((with_reducible refine stopg_alloc ?hw ?_); case hw => rfl) | ((with_reducible refine stopg_load ?hw ?_); case hw => rfl) | ((with_reducible refine stopg_store ?hw ?_); case hw => rfl) | ((with_reducible refine stopg_make ?hw ?_); case hw => rfl) | ((with_reducible refine stopg_lit ?hw ?_); case hw => rfl) | ((with_reducible refine stopg_append ?hw ?_); case hw => rfl) | ((with_reducible refine stopg_copy ?hw ?_); case hw => rfl) | ((with_reducible refine stopg_map ?hw ?_); case hw => rfl) | ((with_reducible refine stopg_lookup ?hw ?_); case hw => rfl) | ((with_reducible refine stopg_update ?hw ?_); case hw => rfl) | ((with_reducible refine stopg_delete ?hw ?_); case hw => rfl) | ((with_reducible refine stopg_arr ?hw ?_); case hw => rfl) | ((with_reducible refine stopg_conv (e := 26) (f := 9) ?hw ?_); case hw => rfl) | ((with_reducible refine stopg_idx ?hw ?_); case hw => rfl))
  refine (awake_calls w).mono ?_
  rintro e w1 ⟨rfl, k1⟩
  by_cases hl : a.length ≤ 1000 ∧ b.length ≤ 1000
  · obtain ⟨ha, hb⟩ := hl
    have ha' : decide (1000 < (a.length : Int)) = false := by simp; omega
    have hb' : decide (1000 < (b.length : Int)) = false := by simp; omega
    have hX : ∀ w, SlAt w A (bys a) → SlAt w B (bys b) → ∃ (X : List UInt8) (k : Int), Calls Try.prog 13 #[.slice A a.length c, .slice B b.length d] w (fun e w' => ∃ v, e = .returned (.tuple #[v, .int .i64 k]) ∧ Kept [] w w' ∧ BsAt w' v X) ∧
        ∀ w, SlAt w A (bys a) → SlAt w B (bys b) → Calls Try.prog 14 #[.slice A a.length c, .slice B b.length d] w (fun e w' => ∃ v, e = .returned (.tuple #[v, .int .i64 k]) ∧ Kept [] w w' ∧ BsAt w' v X) := by
      intro w hA hB
      by_cases hq : a.length = b.length
      · refine ⟨xorB a b, 0, (xor_calls a b A B c d w hA hB hc hd (by omega) hq).mono ?_, fun w hA hB => (rxor_calls a b A B c d w hA hB hc hd (by omega) hq).mono ?_⟩
        · rintro e w1 ⟨v, rfl, H⟩
          exact ⟨v, rfl, H.kept, Row.bs (H.get (k := 0) rfl)⟩
        · rintro e w1 ⟨v, rfl, H⟩
          exact ⟨v, rfl, H.kept, Row.bs (H.get (k := 0) rfl)⟩
      · refine ⟨[], 1, (xor_no a b A B c d w hq).mono ?_, fun w hA hB => (rxor_no a b A B c d w hq).mono ?_⟩
        · rintro e w1 ⟨rfl, rfl⟩
          exact ⟨_, rfl, Kept.refl _ _, none, 0, rfl, Nat.le_refl _, SlAt.nil _ _⟩
        · rintro e w1 ⟨rfl, rfl⟩
          exact ⟨_, rfl, Kept.refl _ _, none, 0, rfl, Nat.le_refl _, SlAt.nil _ _⟩
    obtain ⟨X, k, hx, hy⟩ := hX w1 (hA.keep k1) (hB.keep k1)
    have hx' := Lib.hid hx
    have hy' := Lib.hid hy
    clear hX hx hy
    obtain ⟨K, hK⟩ : ∃ K, K = min b.length 8 := ⟨_, rfl⟩
    have hK' := Lib.hid hK
    clear hK
    go_wp2_with (first | (with_reducible refine stop_box ?_) | (with_reducible refine stop_alloc ?_) | (with_reducible refine stop_load ?_) | (with_reducible refine stop_store ?_) | (with_reducible refine stop_make ?_) | (with_reducible refine stop_lit ?_) | (with_reducible refine stop_append ?_) | (with_reducible refine stop_copy ?_) | (with_reducible refine stop_map ?_) | (with_reducible refine stop_lookup ?_) | (with_reducible refine stop_update ?_) | (with_reducible refine stop_delete ?_) | (with_reducible refine stop_arr ?_) | (with_reducible refine stop_idx ?_) | (with_reducible refine stop_conv (e := 26) (f := 9) ?_) | ((with_reducible refine stopg_box ?hw ?_); case hw => rfl) | ((with_reducible refine stopg_alloc ?hw ?_); case hw => rfl) | ((with_reducible refine stopg_load ?hw ?_); case hw => rfl) | ((with_reducible refine stopg_store ?hw ?_); case hw => rfl) | ((with_reducible refine stopg_make ?hw ?_); case hw => rfl) | ((with_reducible refine stopg_lit ?hw ?_); case hw => rfl) | ((with_reducible refine stopg_append ?hw ?_); case hw => rfl) | ((with_reducible refine stopg_copy ?hw ?_); case hw => rfl) | ((with_reducible refine stopg_map ?hw ?_); case hw => rfl) | ((with_reducible refine stopg_lookup ?hw ?_); case hw => rfl) | ((with_reducible refine stopg_update ?hw ?_); case hw => rfl) | ((with_reducible refine stopg_delete ?hw ?_); case hw => rfl) | ((with_reducible refine stopg_arr ?hw ?_); case hw => rfl) | ((with_reducible refine stopg_conv (e := 26) (f := 9) ?hw ?_); case hw => rfl) | ((with_reducible refine stopg_idx ?hw ?_); case hw => rfl))
    refine hx'.out.mono ?_
    rintro e w2 ⟨x, rfl, k2, A2, c2, rfl, hc2, hA2⟩
    go_wp2_with (first | (with_reducible refine stop_box ?_) | (with_reducible refine stop_alloc ?_) | (with_reducible refine stop_load ?_) | (with_reducible refine stop_store ?_) | (with_reducible refine stop_make ?_) | (with_reducible refine stop_lit ?_) | (with_reducible refine stop_append ?_) | (with_reducible refine stop_copy ?_) | (with_reducible refine stop_map ?_) | (with_reducible refine stop_lookup ?_) | (with_reducible refine stop_update ?_) | (with_reducible refine stop_delete ?_) | (with_reducible refine stop_arr ?_) | (with_reducible refine stop_idx ?_) | (with_reducible refine stop_conv (e := 26) (f := 9) ?_) | ((with_reducible refine stopg_box ?hw ?_); case hw => rfl) | ((with_reducible refine stopg_alloc ?hw ?_); case hw => rfl) | ((with_reducible refine stopg_load ?hw ?_); case hw => rfl) | ((with_reducible refine stopg_store ?hw ?_); case hw => rfl) | ((with_reducible refine stopg_make ?hw ?_); case hw => rfl) | ((with_reducible refine stopg_lit ?hw ?_); case hw => rfl) | ((with_reducible refine stopg_append ?hw ?_); case hw => rfl) | ((with_reducible refine stopg_copy ?hw ?_); case hw => rfl) | ((with_reducible refine stopg_map ?hw ?_); case hw => rfl) | ((with_reducible refine stopg_lookup ?hw ?_); case hw => rfl) | ((with_reducible refine stopg_update ?hw ?_); case hw => rfl) | ((with_reducible refine stopg_delete ?hw ?_); case hw => rfl) | ((with_reducible refine stopg_arr ?hw ?_); case hw => rfl) | ((with_reducible refine stopg_conv (e := 26) (f := 9) ?hw ?_); case hw => rfl) | ((with_reducible refine stopg_idx ?hw ?_); case hw => rfl))
    refine (hy'.out w2 (hA.keep (k1.trans k2)) (hB.keep (k1.trans k2))).mono ?_
    rintro e w3 ⟨y, rfl, k3, A3, c3, rfl, hc3, hA3⟩
    have k4 := (k1.trans k2).trans k3
    have hA2' := hA2.keep k3
    clear k1 k2 hA2 k3
    go_wp2_with (first | (with_reducible refine stop_box ?_) | (with_reducible refine stop_alloc ?_) | (with_reducible refine stop_load ?_) | (with_reducible refine stop_store ?_) | (with_reducible refine stop_make ?_) | (with_reducible refine stop_lit ?_) | (with_reducible refine stop_append ?_) | (with_reducible refine stop_copy ?_) | (with_reducible refine stop_map ?_) | (with_reducible refine stop_lookup ?_) | (with_reducible refine stop_update ?_) | (with_reducible refine stop_delete ?_) | (with_reducible refine stop_arr ?_) | (with_reducible refine stop_idx ?_) | (with_reducible refine stop_conv (e := 26) (f := 9) ?_) | ((with_reducible refine stopg_box ?hw ?_); case hw => rfl) | ((with_reducible refine stopg_alloc ?hw ?_); case hw => rfl) | ((with_reducible refine stopg_load ?hw ?_); case hw => rfl) | ((with_reducible refine stopg_store ?hw ?_); case hw => rfl) | ((with_reducible refine stopg_make ?hw ?_); case hw => rfl) | ((with_reducible refine stopg_lit ?hw ?_); case hw => rfl) | ((with_reducible refine stopg_append ?hw ?_); case hw => rfl) | ((with_reducible refine stopg_copy ?hw ?_); case hw => rfl) | ((with_reducible refine stopg_map ?hw ?_); case hw => rfl) | ((with_reducible refine stopg_lookup ?hw ?_); case hw => rfl) | ((with_reducible refine stopg_update ?hw ?_); case hw => rfl) | ((with_reducible refine stopg_delete ?hw ?_); case hw => rfl) | ((with_reducible refine stopg_arr ?hw ?_); case hw => rfl) | ((with_reducible refine stopg_conv (e := 26) (f := 9) ?hw ?_); case hw => rfl) | ((with_reducible refine stopg_idx ?hw ?_); case hw => rfl))
    refine wp_region_all (n := 96) (fun w' => Kept [] w w' ∧ Kept [] w3 w') (regF [fun v _ => v = .bool true, fun v _ => v = .bool true, fun v _ => v = .slice A a.length c, fun v _ => v = .slice B b.length d, fun v _ => v = .bool (decide (a = b)), fun v _ => v = .slice A a.length c, fun v _ => v = .slice B b.length d, fun v _ => v = .bool (decide (a = b)), fun v _ => v = .bool true, fun v _ => v = .bool true, fun v _ => v = .bool true, fun v _ => v = .slice A2 X.length c2, fun v _ => v = .string ⟨(X).toArray⟩, fun v _ => v = .slice A3 X.length c3, fun v _ => v = .string ⟨(X).toArray⟩, fun v _ => v = .bool true, fun v _ => v = .bool true, fun v _ => v = .bool true, fun v _ => v = .int .i64 k, fun v _ => v = .int .i64 k, fun v _ => v = .bool true, fun v _ => v = .bool true, fun v _ => v = .bool true, fun v _ => v = .slice A a.length c, fun v _ => v = .int .u64 (ofHigh (a.take 8).reverse : Nat), fun v _ => v = .slice A a.length c, fun v _ => v = .int .u64 (ofHigh (a.take 8).reverse : Nat), fun v _ => v = .bool true, fun v _ => v = .bool true, fun v _ => v = .bool true, fun v _ => v = .slice A a.length c, fun v _ => v = .int .u64 (ofHigh (a.take 8) : Nat), fun v _ => v = .slice A a.length c, fun v _ => v = .int .u64 (ofHigh (a.take 8) : Nat), fun v _ => v = .bool true, fun v _ => v = .bool true, fun v _ => v = .bool true, fun v _ => v = .int .u64 n, fun v _ => v = .slice B b.length d, fun v _ => v = .int .i64 b.length, fun v w' => BsAt w' v (lowB n K), fun v _ => v = .string ⟨(lowB n K).toArray⟩, fun v _ => v = .int .u64 n, fun v _ => v = .slice B b.length d, fun v _ => v = .int .i64 b.length, fun v w' => BsAt w' v (lowB n K), fun v _ => v = .string ⟨(lowB n K).toArray⟩, fun v _ => v = .bool true, fun v _ => v = .bool true, fun v _ => v = .bool true, fun v _ => v = .int .u64 n, fun v _ => v = .slice B b.length d, fun v _ => v = .int .i64 b.length, fun v w' => BsAt w' v (highB n K), fun v _ => v = .string ⟨(highB n K).toArray⟩, fun v _ => v = .int .u64 n, fun v _ => v = .slice B b.length d, fun v _ => v = .int .i64 b.length, fun v w' => BsAt w' v (highB n K), fun v _ => v = .string ⟨(highB n K).toArray⟩, fun v _ => v = .bool true, fun v _ => v = .bool true, fun v _ => v = .bool true]) [[], [(34, 0)], [(35, 1)], [(35, 1)], [(36, 2), (37, 3), (35, 1)], [(35, 1)], [(35, 1)], [(39, 5), (40, 6), (38, 4), (35, 1)], [(38, 4), (41, 7), (35, 1)], [(35, 1), (42, 8)], [(43, 9), (41, 7)], [(44, 10)], [(45, 11), (44, 10)], [(44, 10)], [(47, 13), (44, 10)], [(46, 12), (48, 14), (44, 10)], [(44, 10), (49, 15)], [(50, 16), (44, 10)], [(51, 17)], [(51, 17)], [(52, 18), (53, 19), (51, 17)], [(51, 17), (54, 20)], [(55, 21), (51, 17)], [(56, 22)], [(57, 23), (56, 22)], [(56, 22)], [(59, 25), (58, 24), (56, 22)], [(58, 24), (60, 26), (56, 22)], [(56, 22), (61, 27)], [(62, 28), (60, 26)], [(63, 29)], [(64, 30), (63, 29)], [(63, 29)], [(66, 32), (65, 31), (63, 29)], [(65, 31), (67, 33), (63, 29)], [(63, 29), (68, 34)], [(69, 35), (67, 33)], [(70, 36)], [(70, 36)], [(72, 38), (70, 36)], [(71, 37), (73, 39), (70, 36)], [(74, 40), (70, 36)], [(70, 36)], [(70, 36)], [(77, 43), (70, 36)], [(76, 42), (78, 44), (74, 40), (70, 36)], [(79, 45), (70, 36)], [(75, 41), (80, 46), (70, 36)], [(70, 36), (81, 47)], [(82, 48), (79, 45)], [(83, 49)], [(83, 49)], [(85, 51), (83, 49)], [(84, 50), (86, 52), (83, 49)], [(87, 53), (83, 49)], [(83, 49)], [(83, 49)], [(90, 56), (83, 49)], [(89, 55), (91, 57), (87, 53), (83, 49)], [(92, 58), (83, 49)], [(88, 54), (93, 59), (83, 49)], [(83, 49), (94, 60)], [(95, 61), (92, 58), (34, 0), (35, 1), (36, 2), (37, 3), (38, 4), (39, 5), (40, 6), (41, 7), (42, 8), (43, 9), (44, 10), (45, 11), (46, 12), (47, 13), (48, 14), (49, 15), (50, 16), (51, 17), (52, 18), (53, 19), (54, 20), (55, 21), (56, 22), (57, 23), (58, 24), (59, 25), (60, 26), (61, 27), (62, 28), (63, 29), (64, 30), (65, 31), (66, 32), (67, 33), (68, 34), (69, 35), (70, 36), (71, 37), (72, 38), (73, 39), (74, 40), (75, 41), (76, 42), (77, 43), (78, 44), (79, 45), (80, 46), (81, 47), (82, 48), (83, 49), (84, 50), (85, 51), (86, 52), (87, 53), (88, 54), (89, 55), (90, 56), (91, 57), (93, 59), (94, 60)]] [(34, 0), (35, 1), (36, 2), (37, 3), (38, 4), (39, 5), (40, 6), (41, 7), (42, 8), (43, 9), (44, 10), (45, 11), (46, 12), (47, 13), (48, 14), (49, 15), (50, 16), (51, 17), (52, 18), (53, 19), (54, 20), (55, 21), (56, 22), (57, 23), (58, 24), (59, 25), (60, 26), (61, 27), (62, 28), (63, 29), (64, 30), (65, 31), (66, 32), (67, 33), (68, 34), (69, 35), (70, 36), (71, 37), (72, 38), (73, 39), (74, 40), (75, 41), (76, 42), (77, 43), (78, 44), (79, 45), (80, 46), (81, 47), (82, 48), (83, 49), (84, 50), (85, 51), (86, 52), (87, 53), (88, 54), (89, 55), (90, 56), (91, 57), (92, 58), (93, 59), (94, 60), (95, 61), (6, 62)] (by kernel_rfl) (by kernel_rfl) rfl ⟨k4.drew, (Kept.refl _ _).drew⟩ (regF_stable ⟨Stable.eq _, Stable.eq _, Stable.eq _, Stable.eq _, Stable.eq _, Stable.eq _, Stable.eq _, Stable.eq _, Stable.eq _, Stable.eq _, Stable.eq _, Stable.eq _, Stable.eq _, Stable.eq _, Stable.eq _, Stable.eq _, Stable.eq _, Stable.eq _, Stable.eq _, Stable.eq _, Stable.eq _, Stable.eq _, Stable.eq _, Stable.eq _, Stable.eq _, Stable.eq _, Stable.eq _, Stable.eq _, Stable.eq _, Stable.eq _, Stable.eq _, Stable.eq _, Stable.eq _, Stable.eq _, Stable.eq _, Stable.eq _, Stable.eq _, Stable.eq _, Stable.eq _, Stable.eq _, (fun _ _ hK _ h => BsAt.keep h hK), Stable.eq _, Stable.eq _, Stable.eq _, Stable.eq _, (fun _ _ hK _ h => BsAt.keep h hK), Stable.eq _, Stable.eq _, Stable.eq _, Stable.eq _, Stable.eq _, Stable.eq _, Stable.eq _, (fun _ _ hK _ h => BsAt.keep h hK), Stable.eq _, Stable.eq _, Stable.eq _, Stable.eq _, (fun _ _ hK _ h => BsAt.keep h hK), Stable.eq _, Stable.eq _, Stable.eq _, Stable.eq _, trivial⟩) ⟨?_, ?_, ?_, ?_, ?_, ?_, ?_, ?_, ?_, ?_, ?_, ?_, ?_, ?_, ?_, ?_, ?_, ?_, ?_, ?_, ?_, ?_, ?_, ?_, ?_, ?_, ?_, ?_, ?_, ?_, ?_, ?_, ?_, ?_, ?_, ?_, ?_, ?_, ?_, ?_, ?_, ?_, ?_, ?_, ?_, ?_, ?_, ?_, ?_, ?_, ?_, ?_, ?_, ?_, ?_, ?_, ?_, ?_, ?_, ?_, ?_, ?_, ?_, trivial⟩ ?_
    · intro vx w9 hC hF
      clear hF
      refine .inl ⟨trivial, ?_⟩
      simp only [putsOf]
      exact opw_val (v := .bool true) (w' := w9) (by go_simp <;> (simp only [IntKind.wrap_u64, IntKind.wrap_i64] <;> omega)) ⟨_, rfl, by simp, hC, (Kept.refl _ _), rfl⟩
    · intro vx w9 hC hF
      have q0 : (vx 0) = .bool true := hF (34, 0) (by simp)
      clear hF
      refine .inl ⟨trivial, ?_⟩
      simp only [putsOf, q0]
      exact opw_val (v := .bool true) (w' := w9) (by go_simp <;> (simp only [IntKind.wrap_u64, IntKind.wrap_i64] <;> omega)) ⟨_, rfl, by simp, hC, (Kept.refl _ _), rfl⟩
    · intro vx w9 hC hF
      have q1 : (vx 1) = .bool true := hF (35, 1) (by simp)
      clear hF
      refine .inl ⟨⟨q1, rfl⟩, ?_⟩
      simp only [putsOf, q1]
      exact opw_val (v := .slice A a.length c) (w' := w9) (by go_simp <;> (simp only [IntKind.wrap_u64, IntKind.wrap_i64] <;> omega)) ⟨_, rfl, by simp, hC, (Kept.refl _ _), rfl⟩
    · intro vx w9 hC hF
      have q1 : (vx 1) = .bool true := hF (35, 1) (by simp)
      clear hF
      refine .inl ⟨⟨q1, rfl⟩, ?_⟩
      simp only [putsOf, q1]
      exact opw_val (v := .slice B b.length d) (w' := w9) (by go_simp <;> (simp only [IntKind.wrap_u64, IntKind.wrap_i64] <;> omega)) ⟨_, rfl, by simp, hC, (Kept.refl _ _), rfl⟩
    · intro vx w9 hC hF
      have q2 : (vx 2) = .slice A a.length c := hF (36, 2) (by simp)
      have q3 : (vx 3) = .slice B b.length d := hF (37, 3) (by simp)
      have q1 : (vx 1) = .bool true := hF (35, 1) (by simp)
      clear hF
      refine .inl ⟨⟨q1, rfl⟩, ?_⟩
      simp only [putsOf, q2, q3, q1]
      refine opw_call [.slice A a.length c, .slice B b.length d] Try.func15 rfl (by kernel_rfl) rfl ?_
      refine (same_calls a b A B c d w9 (hA.keep hC.1) (hB.keep hC.1) hc hd (by omega) (by omega)).mono ?_
      rintro e w1 ⟨rfl, h1⟩
      have h2 : Kept [] w9 w1 := by first | exact h1 | (subst h1; exact Kept.refl _ _)
      exact ⟨_, rfl, _, rfl, by simp, (by first | exact hC.trans h2 | exact ⟨hC.1.trans h2, hC.2.trans h2⟩), h2, rfl⟩
    · intro vx w9 hC hF
      have q1 : (vx 1) = .bool true := hF (35, 1) (by simp)
      clear hF
      refine .inl ⟨⟨q1, rfl⟩, ?_⟩
      simp only [putsOf, q1]
      exact opw_val (v := .slice A a.length c) (w' := w9) (by go_simp <;> (simp only [IntKind.wrap_u64, IntKind.wrap_i64] <;> omega)) ⟨_, rfl, by simp, hC, (Kept.refl _ _), rfl⟩
    · intro vx w9 hC hF
      have q1 : (vx 1) = .bool true := hF (35, 1) (by simp)
      clear hF
      refine .inl ⟨⟨q1, rfl⟩, ?_⟩
      simp only [putsOf, q1]
      exact opw_val (v := .slice B b.length d) (w' := w9) (by go_simp <;> (simp only [IntKind.wrap_u64, IntKind.wrap_i64] <;> omega)) ⟨_, rfl, by simp, hC, (Kept.refl _ _), rfl⟩
    · intro vx w9 hC hF
      have q5 : (vx 5) = .slice A a.length c := hF (39, 5) (by simp)
      have q6 : (vx 6) = .slice B b.length d := hF (40, 6) (by simp)
      have q4 : (vx 4) = .bool (decide (a = b)) := hF (38, 4) (by simp)
      have q1 : (vx 1) = .bool true := hF (35, 1) (by simp)
      clear hF
      refine .inl ⟨⟨q1, rfl⟩, ?_⟩
      simp only [putsOf, q5, q6, q4, q1]
      refine opw_call [.slice A a.length c, .slice B b.length d] Try.func16 rfl (by kernel_rfl) rfl ?_
      refine (rsame_calls a b A B c d w9 (hA.keep hC.1) (hB.keep hC.1)).mono ?_
      rintro e w1 ⟨rfl, h1⟩
      have h2 : Kept [] w9 w1 := by first | exact h1 | (subst h1; exact Kept.refl _ _)
      exact ⟨_, rfl, _, rfl, by simp, (by first | exact hC.trans h2 | exact ⟨hC.1.trans h2, hC.2.trans h2⟩), h2, rfl⟩
    · intro vx w9 hC hF
      have q4 : (vx 4) = .bool (decide (a = b)) := hF (38, 4) (by simp)
      have q7 : (vx 7) = .bool (decide (a = b)) := hF (41, 7) (by simp)
      have q1 : (vx 1) = .bool true := hF (35, 1) (by simp)
      clear hF
      refine .inl ⟨⟨q1, rfl⟩, ?_⟩
      simp only [putsOf, q4, q7, q1]
      exact opw_val (v := .bool true) (w' := w9) (by go_simp <;> (simp only [IntKind.wrap_u64, IntKind.wrap_i64] <;> omega)) ⟨_, rfl, by simp, hC, (Kept.refl _ _), rfl⟩
    · intro vx w9 hC hF
      have q1 : (vx 1) = .bool true := hF (35, 1) (by simp)
      have q8 : (vx 8) = .bool true := hF (42, 8) (by simp)
      clear hF
      refine .inl ⟨trivial, ?_⟩
      simp only [putsOf, q1, q8]
      exact opw_val (v := .bool true) (w' := w9) (by go_simp <;> (simp only [IntKind.wrap_u64, IntKind.wrap_i64] <;> omega)) ⟨_, rfl, by simp, hC, (Kept.refl _ _), rfl⟩
    · intro vx w9 hC hF
      have q9 : (vx 9) = .bool true := hF (43, 9) (by simp)
      have q7 : (vx 7) = .bool (decide (a = b)) := hF (41, 7) (by simp)
      clear hF
      refine .inl ⟨trivial, ?_⟩
      simp only [putsOf, q9, q7]
      exact opw_val (v := .bool true) (w' := w9) (by go_simp <;> (simp only [IntKind.wrap_u64, IntKind.wrap_i64] <;> omega)) ⟨_, rfl, by simp, hC, (Kept.refl _ _), rfl⟩
    · intro vx w9 hC hF
      have q10 : (vx 10) = .bool true := hF (44, 10) (by simp)
      clear hF
      refine .inl ⟨⟨q10, rfl⟩, ?_⟩
      simp only [putsOf, q10]
      exact opw_val (v := .slice A2 X.length c2) (w' := w9) (by go_simp <;> (simp only [IntKind.wrap_u64, IntKind.wrap_i64] <;> omega)) ⟨_, rfl, by simp, hC, (Kept.refl _ _), rfl⟩
    · intro vx w9 hC hF
      have q11 : (vx 11) = .slice A2 X.length c2 := hF (45, 11) (by simp)
      have q10 : (vx 10) = .bool true := hF (44, 10) (by simp)
      clear hF
      refine .inl ⟨⟨q10, rfl⟩, ?_⟩
      simp only [putsOf, q11, q10]
      exact opw_str (l := X) Try.underlying26 Try.underlying5 Try.underlying9 rfl (hA2'.keep hC.2) rfl ⟨_, rfl, by simp, hC, Kept.refl _ _, rfl⟩
    · intro vx w9 hC hF
      have q10 : (vx 10) = .bool true := hF (44, 10) (by simp)
      clear hF
      refine .inl ⟨⟨q10, rfl⟩, ?_⟩
      simp only [putsOf, q10]
      exact opw_val (v := .slice A3 X.length c3) (w' := w9) (by go_simp <;> (simp only [IntKind.wrap_u64, IntKind.wrap_i64] <;> omega)) ⟨_, rfl, by simp, hC, (Kept.refl _ _), rfl⟩
    · intro vx w9 hC hF
      have q13 : (vx 13) = .slice A3 X.length c3 := hF (47, 13) (by simp)
      have q10 : (vx 10) = .bool true := hF (44, 10) (by simp)
      clear hF
      refine .inl ⟨⟨q10, rfl⟩, ?_⟩
      simp only [putsOf, q13, q10]
      exact opw_str (l := X) Try.underlying26 Try.underlying5 Try.underlying9 rfl (hA3.keep hC.2) rfl ⟨_, rfl, by simp, hC, Kept.refl _ _, rfl⟩
    · intro vx w9 hC hF
      have q12 : (vx 12) = .string ⟨(X).toArray⟩ := hF (46, 12) (by simp)
      have q14 : (vx 14) = .string ⟨(X).toArray⟩ := hF (48, 14) (by simp)
      have q10 : (vx 10) = .bool true := hF (44, 10) (by simp)
      clear hF
      refine .inl ⟨⟨q10, rfl⟩, ?_⟩
      simp only [putsOf, q12, q14, q10]
      exact opw_val (v := .bool true) (w' := w9) (by go_simp <;> (simp only [IntKind.wrap_u64, IntKind.wrap_i64] <;> omega)) ⟨_, rfl, by simp, hC, (Kept.refl _ _), rfl⟩
    · intro vx w9 hC hF
      have q10 : (vx 10) = .bool true := hF (44, 10) (by simp)
      have q15 : (vx 15) = .bool true := hF (49, 15) (by simp)
      clear hF
      refine .inl ⟨trivial, ?_⟩
      simp only [putsOf, q10, q15]
      exact opw_val (v := .bool true) (w' := w9) (by go_simp <;> (simp only [IntKind.wrap_u64, IntKind.wrap_i64] <;> omega)) ⟨_, rfl, by simp, hC, (Kept.refl _ _), rfl⟩
    · intro vx w9 hC hF
      have q16 : (vx 16) = .bool true := hF (50, 16) (by simp)
      have q10 : (vx 10) = .bool true := hF (44, 10) (by simp)
      clear hF
      refine .inl ⟨trivial, ?_⟩
      simp only [putsOf, q16, q10]
      exact opw_val (v := .bool true) (w' := w9) (by go_simp <;> (simp only [IntKind.wrap_u64, IntKind.wrap_i64] <;> omega)) ⟨_, rfl, by simp, hC, (Kept.refl _ _), rfl⟩
    · intro vx w9 hC hF
      have q17 : (vx 17) = .bool true := hF (51, 17) (by simp)
      clear hF
      refine .inl ⟨⟨q17, rfl⟩, ?_⟩
      simp only [putsOf, q17]
      exact opw_val (v := .int .i64 k) (w' := w9) (by go_simp <;> (simp only [IntKind.wrap_u64, IntKind.wrap_i64] <;> omega)) ⟨_, rfl, by simp, hC, (Kept.refl _ _), rfl⟩
    · intro vx w9 hC hF
      have q17 : (vx 17) = .bool true := hF (51, 17) (by simp)
      clear hF
      refine .inl ⟨⟨q17, rfl⟩, ?_⟩
      simp only [putsOf, q17]
      exact opw_val (v := .int .i64 k) (w' := w9) (by go_simp <;> (simp only [IntKind.wrap_u64, IntKind.wrap_i64] <;> omega)) ⟨_, rfl, by simp, hC, (Kept.refl _ _), rfl⟩
    · intro vx w9 hC hF
      have q18 : (vx 18) = .int .i64 k := hF (52, 18) (by simp)
      have q19 : (vx 19) = .int .i64 k := hF (53, 19) (by simp)
      have q17 : (vx 17) = .bool true := hF (51, 17) (by simp)
      clear hF
      refine .inl ⟨⟨q17, rfl⟩, ?_⟩
      simp only [putsOf, q18, q19, q17]
      exact opw_val (v := .bool true) (w' := w9) (by go_simp <;> (simp only [IntKind.wrap_u64, IntKind.wrap_i64] <;> omega)) ⟨_, rfl, by simp, hC, (Kept.refl _ _), rfl⟩
    · intro vx w9 hC hF
      have q17 : (vx 17) = .bool true := hF (51, 17) (by simp)
      have q20 : (vx 20) = .bool true := hF (54, 20) (by simp)
      clear hF
      refine .inl ⟨trivial, ?_⟩
      simp only [putsOf, q17, q20]
      exact opw_val (v := .bool true) (w' := w9) (by go_simp <;> (simp only [IntKind.wrap_u64, IntKind.wrap_i64] <;> omega)) ⟨_, rfl, by simp, hC, (Kept.refl _ _), rfl⟩
    · intro vx w9 hC hF
      have q21 : (vx 21) = .bool true := hF (55, 21) (by simp)
      have q17 : (vx 17) = .bool true := hF (51, 17) (by simp)
      clear hF
      refine .inl ⟨trivial, ?_⟩
      simp only [putsOf, q21, q17]
      exact opw_val (v := .bool true) (w' := w9) (by go_simp <;> (simp only [IntKind.wrap_u64, IntKind.wrap_i64] <;> omega)) ⟨_, rfl, by simp, hC, (Kept.refl _ _), rfl⟩
    · intro vx w9 hC hF
      have q22 : (vx 22) = .bool true := hF (56, 22) (by simp)
      clear hF
      refine .inl ⟨⟨q22, rfl⟩, ?_⟩
      simp only [putsOf, q22]
      exact opw_val (v := .slice A a.length c) (w' := w9) (by go_simp <;> (simp only [IntKind.wrap_u64, IntKind.wrap_i64] <;> omega)) ⟨_, rfl, by simp, hC, (Kept.refl _ _), rfl⟩
    · intro vx w9 hC hF
      have q23 : (vx 23) = .slice A a.length c := hF (57, 23) (by simp)
      have q22 : (vx 22) = .bool true := hF (56, 22) (by simp)
      clear hF
      refine .inl ⟨⟨q22, rfl⟩, ?_⟩
      simp only [putsOf, q23, q22]
      refine opw_call [.slice A a.length c] Try.func17 rfl (by kernel_rfl) rfl ?_
      refine (ofLow_calls a A c w9 (hA.keep hC.1) hc (by omega)).mono ?_
      rintro e w1 ⟨rfl, h1⟩
      have h2 : Kept [] w9 w1 := by first | exact h1 | (subst h1; exact Kept.refl _ _)
      exact ⟨_, rfl, _, rfl, by simp, (by first | exact hC.trans h2 | exact ⟨hC.1.trans h2, hC.2.trans h2⟩), h2, rfl⟩
    · intro vx w9 hC hF
      have q22 : (vx 22) = .bool true := hF (56, 22) (by simp)
      clear hF
      refine .inl ⟨⟨q22, rfl⟩, ?_⟩
      simp only [putsOf, q22]
      exact opw_val (v := .slice A a.length c) (w' := w9) (by go_simp <;> (simp only [IntKind.wrap_u64, IntKind.wrap_i64] <;> omega)) ⟨_, rfl, by simp, hC, (Kept.refl _ _), rfl⟩
    · intro vx w9 hC hF
      have q25 : (vx 25) = .slice A a.length c := hF (59, 25) (by simp)
      have q24 : (vx 24) = .int .u64 (ofHigh (a.take 8).reverse : Nat) := hF (58, 24) (by simp)
      have q22 : (vx 22) = .bool true := hF (56, 22) (by simp)
      clear hF
      refine .inl ⟨⟨q22, rfl⟩, ?_⟩
      simp only [putsOf, q25, q24, q22]
      refine opw_call [.slice A a.length c] Try.func18 rfl (by kernel_rfl) rfl ?_
      refine (rofLow_calls a A c w9 (hA.keep hC.1) hc (by omega)).mono ?_
      rintro e w1 ⟨rfl, h1⟩
      have h2 : Kept [] w9 w1 := by first | exact h1 | (subst h1; exact Kept.refl _ _)
      exact ⟨_, rfl, _, rfl, by simp, (by first | exact hC.trans h2 | exact ⟨hC.1.trans h2, hC.2.trans h2⟩), h2, rfl⟩
    · intro vx w9 hC hF
      have q24 : (vx 24) = .int .u64 (ofHigh (a.take 8).reverse : Nat) := hF (58, 24) (by simp)
      have q26 : (vx 26) = .int .u64 (ofHigh (a.take 8).reverse : Nat) := hF (60, 26) (by simp)
      have q22 : (vx 22) = .bool true := hF (56, 22) (by simp)
      clear hF
      refine .inl ⟨⟨q22, rfl⟩, ?_⟩
      simp only [putsOf, q24, q26, q22]
      exact opw_val (v := .bool true) (w' := w9) (by go_simp <;> (simp only [IntKind.wrap_u64, IntKind.wrap_i64] <;> omega)) ⟨_, rfl, by simp, hC, (Kept.refl _ _), rfl⟩
    · intro vx w9 hC hF
      have q22 : (vx 22) = .bool true := hF (56, 22) (by simp)
      have q27 : (vx 27) = .bool true := hF (61, 27) (by simp)
      clear hF
      refine .inl ⟨trivial, ?_⟩
      simp only [putsOf, q22, q27]
      exact opw_val (v := .bool true) (w' := w9) (by go_simp <;> (simp only [IntKind.wrap_u64, IntKind.wrap_i64] <;> omega)) ⟨_, rfl, by simp, hC, (Kept.refl _ _), rfl⟩
    · intro vx w9 hC hF
      have q28 : (vx 28) = .bool true := hF (62, 28) (by simp)
      have q26 : (vx 26) = .int .u64 (ofHigh (a.take 8).reverse : Nat) := hF (60, 26) (by simp)
      clear hF
      refine .inl ⟨trivial, ?_⟩
      simp only [putsOf, q28, q26]
      exact opw_val (v := .bool true) (w' := w9) (by go_simp <;> (simp only [IntKind.wrap_u64, IntKind.wrap_i64] <;> omega)) ⟨_, rfl, by simp, hC, (Kept.refl _ _), rfl⟩
    · intro vx w9 hC hF
      have q29 : (vx 29) = .bool true := hF (63, 29) (by simp)
      clear hF
      refine .inl ⟨⟨q29, rfl⟩, ?_⟩
      simp only [putsOf, q29]
      exact opw_val (v := .slice A a.length c) (w' := w9) (by go_simp <;> (simp only [IntKind.wrap_u64, IntKind.wrap_i64] <;> omega)) ⟨_, rfl, by simp, hC, (Kept.refl _ _), rfl⟩
    · intro vx w9 hC hF
      have q30 : (vx 30) = .slice A a.length c := hF (64, 30) (by simp)
      have q29 : (vx 29) = .bool true := hF (63, 29) (by simp)
      clear hF
      refine .inl ⟨⟨q29, rfl⟩, ?_⟩
      simp only [putsOf, q30, q29]
      refine opw_call [.slice A a.length c] Try.func19 rfl (by kernel_rfl) rfl ?_
      refine (ofHigh_calls a A c w9 (hA.keep hC.1) hc (by omega)).mono ?_
      rintro e w1 ⟨rfl, h1⟩
      have h2 : Kept [] w9 w1 := by first | exact h1 | (subst h1; exact Kept.refl _ _)
      exact ⟨_, rfl, _, rfl, by simp, (by first | exact hC.trans h2 | exact ⟨hC.1.trans h2, hC.2.trans h2⟩), h2, rfl⟩
    · intro vx w9 hC hF
      have q29 : (vx 29) = .bool true := hF (63, 29) (by simp)
      clear hF
      refine .inl ⟨⟨q29, rfl⟩, ?_⟩
      simp only [putsOf, q29]
      exact opw_val (v := .slice A a.length c) (w' := w9) (by go_simp <;> (simp only [IntKind.wrap_u64, IntKind.wrap_i64] <;> omega)) ⟨_, rfl, by simp, hC, (Kept.refl _ _), rfl⟩
    · intro vx w9 hC hF
      have q32 : (vx 32) = .slice A a.length c := hF (66, 32) (by simp)
      have q31 : (vx 31) = .int .u64 (ofHigh (a.take 8) : Nat) := hF (65, 31) (by simp)
      have q29 : (vx 29) = .bool true := hF (63, 29) (by simp)
      clear hF
      refine .inl ⟨⟨q29, rfl⟩, ?_⟩
      simp only [putsOf, q32, q31, q29]
      refine opw_call [.slice A a.length c] Try.func20 rfl (by kernel_rfl) rfl ?_
      refine (rofHigh_calls a A c w9 (hA.keep hC.1) hc (by omega)).mono ?_
      rintro e w1 ⟨rfl, h1⟩
      have h2 : Kept [] w9 w1 := by first | exact h1 | (subst h1; exact Kept.refl _ _)
      exact ⟨_, rfl, _, rfl, by simp, (by first | exact hC.trans h2 | exact ⟨hC.1.trans h2, hC.2.trans h2⟩), h2, rfl⟩
    · intro vx w9 hC hF
      have q31 : (vx 31) = .int .u64 (ofHigh (a.take 8) : Nat) := hF (65, 31) (by simp)
      have q33 : (vx 33) = .int .u64 (ofHigh (a.take 8) : Nat) := hF (67, 33) (by simp)
      have q29 : (vx 29) = .bool true := hF (63, 29) (by simp)
      clear hF
      refine .inl ⟨⟨q29, rfl⟩, ?_⟩
      simp only [putsOf, q31, q33, q29]
      exact opw_val (v := .bool true) (w' := w9) (by go_simp <;> (simp only [IntKind.wrap_u64, IntKind.wrap_i64] <;> omega)) ⟨_, rfl, by simp, hC, (Kept.refl _ _), rfl⟩
    · intro vx w9 hC hF
      have q29 : (vx 29) = .bool true := hF (63, 29) (by simp)
      have q34 : (vx 34) = .bool true := hF (68, 34) (by simp)
      clear hF
      refine .inl ⟨trivial, ?_⟩
      simp only [putsOf, q29, q34]
      exact opw_val (v := .bool true) (w' := w9) (by go_simp <;> (simp only [IntKind.wrap_u64, IntKind.wrap_i64] <;> omega)) ⟨_, rfl, by simp, hC, (Kept.refl _ _), rfl⟩
    · intro vx w9 hC hF
      have q35 : (vx 35) = .bool true := hF (69, 35) (by simp)
      have q33 : (vx 33) = .int .u64 (ofHigh (a.take 8) : Nat) := hF (67, 33) (by simp)
      clear hF
      refine .inl ⟨trivial, ?_⟩
      simp only [putsOf, q35, q33]
      exact opw_val (v := .bool true) (w' := w9) (by go_simp <;> (simp only [IntKind.wrap_u64, IntKind.wrap_i64] <;> omega)) ⟨_, rfl, by simp, hC, (Kept.refl _ _), rfl⟩
    · intro vx w9 hC hF
      have q36 : (vx 36) = .bool true := hF (70, 36) (by simp)
      clear hF
      refine .inl ⟨⟨q36, rfl⟩, ?_⟩
      simp only [putsOf, q36]
      exact opw_val (v := .int .u64 n) (w' := w9) (by go_simp <;> (simp only [IntKind.wrap_u64, IntKind.wrap_i64] <;> omega)) ⟨_, rfl, by simp, hC, (Kept.refl _ _), rfl⟩
    · intro vx w9 hC hF
      have q36 : (vx 36) = .bool true := hF (70, 36) (by simp)
      clear hF
      refine .inl ⟨⟨q36, rfl⟩, ?_⟩
      simp only [putsOf, q36]
      exact opw_val (v := .slice B b.length d) (w' := w9) (by go_simp <;> (simp only [IntKind.wrap_u64, IntKind.wrap_i64] <;> omega)) ⟨_, rfl, by simp, hC, (Kept.refl _ _), rfl⟩
    · intro vx w9 hC hF
      have q38 : (vx 38) = .slice B b.length d := hF (72, 38) (by simp)
      have q36 : (vx 36) = .bool true := hF (70, 36) (by simp)
      clear hF
      refine .inl ⟨⟨q36, rfl⟩, ?_⟩
      simp only [putsOf, q38, q36]
      exact opw_val (v := .int .i64 b.length) (w' := w9) (by go_simp <;> (simp only [IntKind.wrap_u64, IntKind.wrap_i64] <;> omega)) ⟨_, rfl, by simp, hC, (Kept.refl _ _), rfl⟩
    · intro vx w9 hC hF
      have q37 : (vx 37) = .int .u64 n := hF (71, 37) (by simp)
      have q39 : (vx 39) = .int .i64 b.length := hF (73, 39) (by simp)
      have q36 : (vx 36) = .bool true := hF (70, 36) (by simp)
      clear hF
      refine .inl ⟨⟨q36, rfl⟩, ?_⟩
      simp only [putsOf, q37, q39, q36]
      refine opw_call [.int .u64 n, .int .i64 b.length] Try.func21 rfl (by kernel_rfl) rfl ?_
      refine (low_calls n b.length K hK'.out (by omega) w9).mono ?_
      rintro e w1 ⟨v, rfl, H1⟩
      exact ⟨_, rfl, _, rfl, by simp, (by first | exact hC.trans H1.kept | exact ⟨hC.1.trans H1.kept, hC.2.trans H1.kept⟩), H1.kept, Row.bs (H1.get (k := 0) rfl)⟩
    · intro vx w9 hC hF
      have q40 : BsAt w9 (vx 40) (lowB n K) := hF (74, 40) (by simp)
      obtain ⟨A40, c40, e40, l40, s40⟩ := q40
      have q36 : (vx 36) = .bool true := hF (70, 36) (by simp)
      clear hF
      refine .inl ⟨⟨q36, rfl⟩, ?_⟩
      simp only [putsOf, e40, q36]
      exact opw_str (l := lowB n K) Try.underlying26 Try.underlying5 Try.underlying9 rfl (s40) rfl ⟨_, rfl, by simp, hC, Kept.refl _ _, rfl⟩
    · intro vx w9 hC hF
      have q36 : (vx 36) = .bool true := hF (70, 36) (by simp)
      clear hF
      refine .inl ⟨⟨q36, rfl⟩, ?_⟩
      simp only [putsOf, q36]
      exact opw_val (v := .int .u64 n) (w' := w9) (by go_simp <;> (simp only [IntKind.wrap_u64, IntKind.wrap_i64] <;> omega)) ⟨_, rfl, by simp, hC, (Kept.refl _ _), rfl⟩
    · intro vx w9 hC hF
      have q36 : (vx 36) = .bool true := hF (70, 36) (by simp)
      clear hF
      refine .inl ⟨⟨q36, rfl⟩, ?_⟩
      simp only [putsOf, q36]
      exact opw_val (v := .slice B b.length d) (w' := w9) (by go_simp <;> (simp only [IntKind.wrap_u64, IntKind.wrap_i64] <;> omega)) ⟨_, rfl, by simp, hC, (Kept.refl _ _), rfl⟩
    · intro vx w9 hC hF
      have q43 : (vx 43) = .slice B b.length d := hF (77, 43) (by simp)
      have q36 : (vx 36) = .bool true := hF (70, 36) (by simp)
      clear hF
      refine .inl ⟨⟨q36, rfl⟩, ?_⟩
      simp only [putsOf, q43, q36]
      exact opw_val (v := .int .i64 b.length) (w' := w9) (by go_simp <;> (simp only [IntKind.wrap_u64, IntKind.wrap_i64] <;> omega)) ⟨_, rfl, by simp, hC, (Kept.refl _ _), rfl⟩
    · intro vx w9 hC hF
      have q42 : (vx 42) = .int .u64 n := hF (76, 42) (by simp)
      have q44 : (vx 44) = .int .i64 b.length := hF (78, 44) (by simp)
      have q40 : BsAt w9 (vx 40) (lowB n K) := hF (74, 40) (by simp)
      obtain ⟨A40, c40, e40, l40, s40⟩ := q40
      have q36 : (vx 36) = .bool true := hF (70, 36) (by simp)
      clear hF
      refine .inl ⟨⟨q36, rfl⟩, ?_⟩
      simp only [putsOf, q42, q44, e40, q36]
      refine opw_call [.int .u64 n, .int .i64 b.length] Try.func22 rfl (by kernel_rfl) rfl ?_
      refine (rlow_calls n b.length K hK'.out (by omega) hn w9).mono ?_
      rintro e w1 ⟨v, rfl, H1⟩
      exact ⟨_, rfl, _, rfl, by simp, (by first | exact hC.trans H1.kept | exact ⟨hC.1.trans H1.kept, hC.2.trans H1.kept⟩), H1.kept, Row.bs (H1.get (k := 0) rfl)⟩
    · intro vx w9 hC hF
      have q45 : BsAt w9 (vx 45) (lowB n K) := hF (79, 45) (by simp)
      obtain ⟨A45, c45, e45, l45, s45⟩ := q45
      have q36 : (vx 36) = .bool true := hF (70, 36) (by simp)
      clear hF
      refine .inl ⟨⟨q36, rfl⟩, ?_⟩
      simp only [putsOf, e45, q36]
      exact opw_str (l := lowB n K) Try.underlying26 Try.underlying5 Try.underlying9 rfl (s45) rfl ⟨_, rfl, by simp, hC, Kept.refl _ _, rfl⟩
    · intro vx w9 hC hF
      have q41 : (vx 41) = .string ⟨(lowB n K).toArray⟩ := hF (75, 41) (by simp)
      have q46 : (vx 46) = .string ⟨(lowB n K).toArray⟩ := hF (80, 46) (by simp)
      have q36 : (vx 36) = .bool true := hF (70, 36) (by simp)
      clear hF
      refine .inl ⟨⟨q36, rfl⟩, ?_⟩
      simp only [putsOf, q41, q46, q36]
      exact opw_val (v := .bool true) (w' := w9) (by go_simp <;> (simp only [IntKind.wrap_u64, IntKind.wrap_i64] <;> omega)) ⟨_, rfl, by simp, hC, (Kept.refl _ _), rfl⟩
    · intro vx w9 hC hF
      have q36 : (vx 36) = .bool true := hF (70, 36) (by simp)
      have q47 : (vx 47) = .bool true := hF (81, 47) (by simp)
      clear hF
      refine .inl ⟨trivial, ?_⟩
      simp only [putsOf, q36, q47]
      exact opw_val (v := .bool true) (w' := w9) (by go_simp <;> (simp only [IntKind.wrap_u64, IntKind.wrap_i64] <;> omega)) ⟨_, rfl, by simp, hC, (Kept.refl _ _), rfl⟩
    · intro vx w9 hC hF
      have q48 : (vx 48) = .bool true := hF (82, 48) (by simp)
      have q45 : BsAt w9 (vx 45) (lowB n K) := hF (79, 45) (by simp)
      obtain ⟨A45, c45, e45, l45, s45⟩ := q45
      clear hF
      refine .inl ⟨trivial, ?_⟩
      simp only [putsOf, q48, e45]
      exact opw_val (v := .bool true) (w' := w9) (by go_simp <;> (simp only [IntKind.wrap_u64, IntKind.wrap_i64] <;> omega)) ⟨_, rfl, by simp, hC, (Kept.refl _ _), rfl⟩
    · intro vx w9 hC hF
      have q49 : (vx 49) = .bool true := hF (83, 49) (by simp)
      clear hF
      refine .inl ⟨⟨q49, rfl⟩, ?_⟩
      simp only [putsOf, q49]
      exact opw_val (v := .int .u64 n) (w' := w9) (by go_simp <;> (simp only [IntKind.wrap_u64, IntKind.wrap_i64] <;> omega)) ⟨_, rfl, by simp, hC, (Kept.refl _ _), rfl⟩
    · intro vx w9 hC hF
      have q49 : (vx 49) = .bool true := hF (83, 49) (by simp)
      clear hF
      refine .inl ⟨⟨q49, rfl⟩, ?_⟩
      simp only [putsOf, q49]
      exact opw_val (v := .slice B b.length d) (w' := w9) (by go_simp <;> (simp only [IntKind.wrap_u64, IntKind.wrap_i64] <;> omega)) ⟨_, rfl, by simp, hC, (Kept.refl _ _), rfl⟩
    · intro vx w9 hC hF
      have q51 : (vx 51) = .slice B b.length d := hF (85, 51) (by simp)
      have q49 : (vx 49) = .bool true := hF (83, 49) (by simp)
      clear hF
      refine .inl ⟨⟨q49, rfl⟩, ?_⟩
      simp only [putsOf, q51, q49]
      exact opw_val (v := .int .i64 b.length) (w' := w9) (by go_simp <;> (simp only [IntKind.wrap_u64, IntKind.wrap_i64] <;> omega)) ⟨_, rfl, by simp, hC, (Kept.refl _ _), rfl⟩
    · intro vx w9 hC hF
      have q50 : (vx 50) = .int .u64 n := hF (84, 50) (by simp)
      have q52 : (vx 52) = .int .i64 b.length := hF (86, 52) (by simp)
      have q49 : (vx 49) = .bool true := hF (83, 49) (by simp)
      clear hF
      refine .inl ⟨⟨q49, rfl⟩, ?_⟩
      simp only [putsOf, q50, q52, q49]
      refine opw_call [.int .u64 n, .int .i64 b.length] Try.func23 rfl (by kernel_rfl) rfl ?_
      refine (high_calls n b.length K hK'.out (by omega) w9).mono ?_
      rintro e w1 ⟨v, rfl, H1⟩
      exact ⟨_, rfl, _, rfl, by simp, (by first | exact hC.trans H1.kept | exact ⟨hC.1.trans H1.kept, hC.2.trans H1.kept⟩), H1.kept, Row.bs (H1.get (k := 0) rfl)⟩
    · intro vx w9 hC hF
      have q53 : BsAt w9 (vx 53) (highB n K) := hF (87, 53) (by simp)
      obtain ⟨A53, c53, e53, l53, s53⟩ := q53
      have q49 : (vx 49) = .bool true := hF (83, 49) (by simp)
      clear hF
      refine .inl ⟨⟨q49, rfl⟩, ?_⟩
      simp only [putsOf, e53, q49]
      exact opw_str (l := highB n K) Try.underlying26 Try.underlying5 Try.underlying9 rfl (s53) rfl ⟨_, rfl, by simp, hC, Kept.refl _ _, rfl⟩
    · intro vx w9 hC hF
      have q49 : (vx 49) = .bool true := hF (83, 49) (by simp)
      clear hF
      refine .inl ⟨⟨q49, rfl⟩, ?_⟩
      simp only [putsOf, q49]
      exact opw_val (v := .int .u64 n) (w' := w9) (by go_simp <;> (simp only [IntKind.wrap_u64, IntKind.wrap_i64] <;> omega)) ⟨_, rfl, by simp, hC, (Kept.refl _ _), rfl⟩
    · intro vx w9 hC hF
      have q49 : (vx 49) = .bool true := hF (83, 49) (by simp)
      clear hF
      refine .inl ⟨⟨q49, rfl⟩, ?_⟩
      simp only [putsOf, q49]
      exact opw_val (v := .slice B b.length d) (w' := w9) (by go_simp <;> (simp only [IntKind.wrap_u64, IntKind.wrap_i64] <;> omega)) ⟨_, rfl, by simp, hC, (Kept.refl _ _), rfl⟩
    · intro vx w9 hC hF
      have q56 : (vx 56) = .slice B b.length d := hF (90, 56) (by simp)
      have q49 : (vx 49) = .bool true := hF (83, 49) (by simp)
      clear hF
      refine .inl ⟨⟨q49, rfl⟩, ?_⟩
      simp only [putsOf, q56, q49]
      exact opw_val (v := .int .i64 b.length) (w' := w9) (by go_simp <;> (simp only [IntKind.wrap_u64, IntKind.wrap_i64] <;> omega)) ⟨_, rfl, by simp, hC, (Kept.refl _ _), rfl⟩
    · intro vx w9 hC hF
      have q55 : (vx 55) = .int .u64 n := hF (89, 55) (by simp)
      have q57 : (vx 57) = .int .i64 b.length := hF (91, 57) (by simp)
      have q53 : BsAt w9 (vx 53) (highB n K) := hF (87, 53) (by simp)
      obtain ⟨A53, c53, e53, l53, s53⟩ := q53
      have q49 : (vx 49) = .bool true := hF (83, 49) (by simp)
      clear hF
      refine .inl ⟨⟨q49, rfl⟩, ?_⟩
      simp only [putsOf, q55, q57, e53, q49]
      refine opw_call [.int .u64 n, .int .i64 b.length] Try.func24 rfl (by kernel_rfl) rfl ?_
      refine (rhigh_calls n b.length K hK'.out (by omega) hn w9).mono ?_
      rintro e w1 ⟨v, rfl, H1⟩
      exact ⟨_, rfl, _, rfl, by simp, (by first | exact hC.trans H1.kept | exact ⟨hC.1.trans H1.kept, hC.2.trans H1.kept⟩), H1.kept, Row.bs (H1.get (k := 0) rfl)⟩
    · intro vx w9 hC hF
      have q58 : BsAt w9 (vx 58) (highB n K) := hF (92, 58) (by simp)
      obtain ⟨A58, c58, e58, l58, s58⟩ := q58
      have q49 : (vx 49) = .bool true := hF (83, 49) (by simp)
      clear hF
      refine .inl ⟨⟨q49, rfl⟩, ?_⟩
      simp only [putsOf, e58, q49]
      exact opw_str (l := highB n K) Try.underlying26 Try.underlying5 Try.underlying9 rfl (s58) rfl ⟨_, rfl, by simp, hC, Kept.refl _ _, rfl⟩
    · intro vx w9 hC hF
      have q54 : (vx 54) = .string ⟨(highB n K).toArray⟩ := hF (88, 54) (by simp)
      have q59 : (vx 59) = .string ⟨(highB n K).toArray⟩ := hF (93, 59) (by simp)
      have q49 : (vx 49) = .bool true := hF (83, 49) (by simp)
      clear hF
      refine .inl ⟨⟨q49, rfl⟩, ?_⟩
      simp only [putsOf, q54, q59, q49]
      exact opw_val (v := .bool true) (w' := w9) (by go_simp <;> (simp only [IntKind.wrap_u64, IntKind.wrap_i64] <;> omega)) ⟨_, rfl, by simp, hC, (Kept.refl _ _), rfl⟩
    · intro vx w9 hC hF
      have q49 : (vx 49) = .bool true := hF (83, 49) (by simp)
      have q60 : (vx 60) = .bool true := hF (94, 60) (by simp)
      clear hF
      refine .inl ⟨trivial, ?_⟩
      simp only [putsOf, q49, q60]
      exact opw_val (v := .bool true) (w' := w9) (by go_simp <;> (simp only [IntKind.wrap_u64, IntKind.wrap_i64] <;> omega)) ⟨_, rfl, by simp, hC, (Kept.refl _ _), rfl⟩
    · intro vx w9 hC hF
      have q61 : (vx 61) = .bool true := hF (95, 61) (by simp)
      have q58 : BsAt w9 (vx 58) (highB n K) := hF (92, 58) (by simp)
      obtain ⟨A58, c58, e58, l58, s58⟩ := q58
      have q0 : (vx 0) = .bool true := hF (34, 0) (by simp)
      have q1 : (vx 1) = .bool true := hF (35, 1) (by simp)
      have q2 : (vx 2) = .slice A a.length c := hF (36, 2) (by simp)
      have q3 : (vx 3) = .slice B b.length d := hF (37, 3) (by simp)
      have q4 : (vx 4) = .bool (decide (a = b)) := hF (38, 4) (by simp)
      have q5 : (vx 5) = .slice A a.length c := hF (39, 5) (by simp)
      have q6 : (vx 6) = .slice B b.length d := hF (40, 6) (by simp)
      have q7 : (vx 7) = .bool (decide (a = b)) := hF (41, 7) (by simp)
      have q8 : (vx 8) = .bool true := hF (42, 8) (by simp)
      have q9 : (vx 9) = .bool true := hF (43, 9) (by simp)
      have q10 : (vx 10) = .bool true := hF (44, 10) (by simp)
      have q11 : (vx 11) = .slice A2 X.length c2 := hF (45, 11) (by simp)
      have q12 : (vx 12) = .string ⟨(X).toArray⟩ := hF (46, 12) (by simp)
      have q13 : (vx 13) = .slice A3 X.length c3 := hF (47, 13) (by simp)
      have q14 : (vx 14) = .string ⟨(X).toArray⟩ := hF (48, 14) (by simp)
      have q15 : (vx 15) = .bool true := hF (49, 15) (by simp)
      have q16 : (vx 16) = .bool true := hF (50, 16) (by simp)
      have q17 : (vx 17) = .bool true := hF (51, 17) (by simp)
      have q18 : (vx 18) = .int .i64 k := hF (52, 18) (by simp)
      have q19 : (vx 19) = .int .i64 k := hF (53, 19) (by simp)
      have q20 : (vx 20) = .bool true := hF (54, 20) (by simp)
      have q21 : (vx 21) = .bool true := hF (55, 21) (by simp)
      have q22 : (vx 22) = .bool true := hF (56, 22) (by simp)
      have q23 : (vx 23) = .slice A a.length c := hF (57, 23) (by simp)
      have q24 : (vx 24) = .int .u64 (ofHigh (a.take 8).reverse : Nat) := hF (58, 24) (by simp)
      have q25 : (vx 25) = .slice A a.length c := hF (59, 25) (by simp)
      have q26 : (vx 26) = .int .u64 (ofHigh (a.take 8).reverse : Nat) := hF (60, 26) (by simp)
      have q27 : (vx 27) = .bool true := hF (61, 27) (by simp)
      have q28 : (vx 28) = .bool true := hF (62, 28) (by simp)
      have q29 : (vx 29) = .bool true := hF (63, 29) (by simp)
      have q30 : (vx 30) = .slice A a.length c := hF (64, 30) (by simp)
      have q31 : (vx 31) = .int .u64 (ofHigh (a.take 8) : Nat) := hF (65, 31) (by simp)
      have q32 : (vx 32) = .slice A a.length c := hF (66, 32) (by simp)
      have q33 : (vx 33) = .int .u64 (ofHigh (a.take 8) : Nat) := hF (67, 33) (by simp)
      have q34 : (vx 34) = .bool true := hF (68, 34) (by simp)
      have q35 : (vx 35) = .bool true := hF (69, 35) (by simp)
      have q36 : (vx 36) = .bool true := hF (70, 36) (by simp)
      have q37 : (vx 37) = .int .u64 n := hF (71, 37) (by simp)
      have q38 : (vx 38) = .slice B b.length d := hF (72, 38) (by simp)
      have q39 : (vx 39) = .int .i64 b.length := hF (73, 39) (by simp)
      have q40 : BsAt w9 (vx 40) (lowB n K) := hF (74, 40) (by simp)
      obtain ⟨A40, c40, e40, l40, s40⟩ := q40
      have q41 : (vx 41) = .string ⟨(lowB n K).toArray⟩ := hF (75, 41) (by simp)
      have q42 : (vx 42) = .int .u64 n := hF (76, 42) (by simp)
      have q43 : (vx 43) = .slice B b.length d := hF (77, 43) (by simp)
      have q44 : (vx 44) = .int .i64 b.length := hF (78, 44) (by simp)
      have q45 : BsAt w9 (vx 45) (lowB n K) := hF (79, 45) (by simp)
      obtain ⟨A45, c45, e45, l45, s45⟩ := q45
      have q46 : (vx 46) = .string ⟨(lowB n K).toArray⟩ := hF (80, 46) (by simp)
      have q47 : (vx 47) = .bool true := hF (81, 47) (by simp)
      have q48 : (vx 48) = .bool true := hF (82, 48) (by simp)
      have q49 : (vx 49) = .bool true := hF (83, 49) (by simp)
      have q50 : (vx 50) = .int .u64 n := hF (84, 50) (by simp)
      have q51 : (vx 51) = .slice B b.length d := hF (85, 51) (by simp)
      have q52 : (vx 52) = .int .i64 b.length := hF (86, 52) (by simp)
      have q53 : BsAt w9 (vx 53) (highB n K) := hF (87, 53) (by simp)
      obtain ⟨A53, c53, e53, l53, s53⟩ := q53
      have q54 : (vx 54) = .string ⟨(highB n K).toArray⟩ := hF (88, 54) (by simp)
      have q55 : (vx 55) = .int .u64 n := hF (89, 55) (by simp)
      have q56 : (vx 56) = .slice B b.length d := hF (90, 56) (by simp)
      have q57 : (vx 57) = .int .i64 b.length := hF (91, 57) (by simp)
      have q59 : (vx 59) = .string ⟨(highB n K).toArray⟩ := hF (93, 59) (by simp)
      have q60 : (vx 60) = .bool true := hF (94, 60) (by simp)
      clear hF
      refine .inl ⟨trivial, ?_⟩
      simp only [putsOf, q61, e58, q0, q1, q2, q3, q4, q5, q6, q7, q8, q9, q10, q11, q12, q13, q14, q15, q16, q17, q18, q19, q20, q21, q22, q23, q24, q25, q26, q27, q28, q29, q30, q31, q32, q33, q34, q35, q36, q37, q38, q39, e40, q41, q42, q43, q44, e45, q46, q47, q48, q49, q50, q51, q52, e53, q54, q55, q56, q57, q59, q60]
      exact opw_val (v := .bool true) (w' := w9) (by go_simp <;> (simp only [IntKind.wrap_u64, IntKind.wrap_i64] <;> omega)) ⟨_, rfl, by simp, hC, (Kept.refl _ _), rfl⟩
    intro vx w9 hC hF
    have q0 : (vx 0) = .bool true := hF 0 (by simp)
    have q1 : (vx 1) = .bool true := hF 1 (by simp)
    have q2 : (vx 2) = .slice A a.length c := hF 2 (by simp)
    have q3 : (vx 3) = .slice B b.length d := hF 3 (by simp)
    have q4 : (vx 4) = .bool (decide (a = b)) := hF 4 (by simp)
    have q5 : (vx 5) = .slice A a.length c := hF 5 (by simp)
    have q6 : (vx 6) = .slice B b.length d := hF 6 (by simp)
    have q7 : (vx 7) = .bool (decide (a = b)) := hF 7 (by simp)
    have q8 : (vx 8) = .bool true := hF 8 (by simp)
    have q9 : (vx 9) = .bool true := hF 9 (by simp)
    have q10 : (vx 10) = .bool true := hF 10 (by simp)
    have q11 : (vx 11) = .slice A2 X.length c2 := hF 11 (by simp)
    have q12 : (vx 12) = .string ⟨(X).toArray⟩ := hF 12 (by simp)
    have q13 : (vx 13) = .slice A3 X.length c3 := hF 13 (by simp)
    have q14 : (vx 14) = .string ⟨(X).toArray⟩ := hF 14 (by simp)
    have q15 : (vx 15) = .bool true := hF 15 (by simp)
    have q16 : (vx 16) = .bool true := hF 16 (by simp)
    have q17 : (vx 17) = .bool true := hF 17 (by simp)
    have q18 : (vx 18) = .int .i64 k := hF 18 (by simp)
    have q19 : (vx 19) = .int .i64 k := hF 19 (by simp)
    have q20 : (vx 20) = .bool true := hF 20 (by simp)
    have q21 : (vx 21) = .bool true := hF 21 (by simp)
    have q22 : (vx 22) = .bool true := hF 22 (by simp)
    have q23 : (vx 23) = .slice A a.length c := hF 23 (by simp)
    have q24 : (vx 24) = .int .u64 (ofHigh (a.take 8).reverse : Nat) := hF 24 (by simp)
    have q25 : (vx 25) = .slice A a.length c := hF 25 (by simp)
    have q26 : (vx 26) = .int .u64 (ofHigh (a.take 8).reverse : Nat) := hF 26 (by simp)
    have q27 : (vx 27) = .bool true := hF 27 (by simp)
    have q28 : (vx 28) = .bool true := hF 28 (by simp)
    have q29 : (vx 29) = .bool true := hF 29 (by simp)
    have q30 : (vx 30) = .slice A a.length c := hF 30 (by simp)
    have q31 : (vx 31) = .int .u64 (ofHigh (a.take 8) : Nat) := hF 31 (by simp)
    have q32 : (vx 32) = .slice A a.length c := hF 32 (by simp)
    have q33 : (vx 33) = .int .u64 (ofHigh (a.take 8) : Nat) := hF 33 (by simp)
    have q34 : (vx 34) = .bool true := hF 34 (by simp)
    have q35 : (vx 35) = .bool true := hF 35 (by simp)
    have q36 : (vx 36) = .bool true := hF 36 (by simp)
    have q37 : (vx 37) = .int .u64 n := hF 37 (by simp)
    have q38 : (vx 38) = .slice B b.length d := hF 38 (by simp)
    have q39 : (vx 39) = .int .i64 b.length := hF 39 (by simp)
    have q40 : BsAt w9 (vx 40) (lowB n K) := hF 40 (by simp)
    obtain ⟨A40, c40, e40, l40, s40⟩ := q40
    have q41 : (vx 41) = .string ⟨(lowB n K).toArray⟩ := hF 41 (by simp)
    have q42 : (vx 42) = .int .u64 n := hF 42 (by simp)
    have q43 : (vx 43) = .slice B b.length d := hF 43 (by simp)
    have q44 : (vx 44) = .int .i64 b.length := hF 44 (by simp)
    have q45 : BsAt w9 (vx 45) (lowB n K) := hF 45 (by simp)
    obtain ⟨A45, c45, e45, l45, s45⟩ := q45
    have q46 : (vx 46) = .string ⟨(lowB n K).toArray⟩ := hF 46 (by simp)
    have q47 : (vx 47) = .bool true := hF 47 (by simp)
    have q48 : (vx 48) = .bool true := hF 48 (by simp)
    have q49 : (vx 49) = .bool true := hF 49 (by simp)
    have q50 : (vx 50) = .int .u64 n := hF 50 (by simp)
    have q51 : (vx 51) = .slice B b.length d := hF 51 (by simp)
    have q52 : (vx 52) = .int .i64 b.length := hF 52 (by simp)
    have q53 : BsAt w9 (vx 53) (highB n K) := hF 53 (by simp)
    obtain ⟨A53, c53, e53, l53, s53⟩ := q53
    have q54 : (vx 54) = .string ⟨(highB n K).toArray⟩ := hF 54 (by simp)
    have q55 : (vx 55) = .int .u64 n := hF 55 (by simp)
    have q56 : (vx 56) = .slice B b.length d := hF 56 (by simp)
    have q57 : (vx 57) = .int .i64 b.length := hF 57 (by simp)
    have q58 : BsAt w9 (vx 58) (highB n K) := hF 58 (by simp)
    obtain ⟨A58, c58, e58, l58, s58⟩ := q58
    have q59 : (vx 59) = .string ⟨(highB n K).toArray⟩ := hF 59 (by simp)
    have q60 : (vx 60) = .bool true := hF 60 (by simp)
    have q61 : (vx 61) = .bool true := hF 61 (by simp)
    have q62 : (vx 62) = .bool true := hF 62 (by simp)
    clear hF
    simp only [putsOf, q0, q1, q2, q3, q4, q5, q6, q7, q8, q9, q10, q11, q12, q13, q14, q15, q16, q17, q18, q19, q20, q21, q22, q23, q24, q25, q26, q27, q28, q29, q30, q31, q32, q33, q34, q35, q36, q37, q38, q39, e40, q41, q42, q43, q44, e45, q46, q47, q48, q49, q50, q51, q52, e53, q54, q55, q56, q57, e58, q59, q60, q61, q62]
    simp only [Act.put, List.setIfInBounds_toArray, List.set_cons_succ, List.set_cons_zero]
    clear q0 q1 q2 q3 q4 q5 q6 q7 q8 q9 q10 q11 q12 q13 q14 q15 q16 q17 q18 q19 q20 q21 q22 q23 q24 q25 q26 q27 q28 q29 q30 q31 q32 q33 q34 q35 q36 q37 q38 q39 q41 q42 q43 q44 q46 q47 q48 q49 q50 q51 q52 q54 q55 q56 q57 q59 q60 q61 q62
    go_wp2_with (first | (with_reducible refine stop_box ?_) | (with_reducible refine stop_alloc ?_) | (with_reducible refine stop_load ?_) | (with_reducible refine stop_store ?_) | (with_reducible refine stop_make ?_) | (with_reducible refine stop_lit ?_) | (with_reducible refine stop_append ?_) | (with_reducible refine stop_copy ?_) | (with_reducible refine stop_map ?_) | (with_reducible refine stop_lookup ?_) | (with_reducible refine stop_update ?_) | (with_reducible refine stop_delete ?_) | (with_reducible refine stop_arr ?_) | (with_reducible refine stop_idx ?_) | (with_reducible refine stop_conv (e := 26) (f := 9) ?_) | ((with_reducible refine stopg_box ?hw ?_); case hw => rfl) | ((with_reducible refine stopg_alloc ?hw ?_); case hw => rfl) | ((with_reducible refine stopg_load ?hw ?_); case hw => rfl) | ((with_reducible refine stopg_store ?hw ?_); case hw => rfl) | ((with_reducible refine stopg_make ?hw ?_); case hw => rfl) | ((with_reducible refine stopg_lit ?hw ?_); case hw => rfl) | ((with_reducible refine stopg_append ?hw ?_); case hw => rfl) | ((with_reducible refine stopg_copy ?hw ?_); case hw => rfl) | ((with_reducible refine stopg_map ?hw ?_); case hw => rfl) | ((with_reducible refine stopg_lookup ?hw ?_); case hw => rfl) | ((with_reducible refine stopg_update ?hw ?_); case hw => rfl) | ((with_reducible refine stopg_delete ?hw ?_); case hw => rfl) | ((with_reducible refine stopg_arr ?hw ?_); case hw => rfl) | ((with_reducible refine stopg_conv (e := 26) (f := 9) ?hw ?_); case hw => rfl) | ((with_reducible refine stopg_idx ?hw ?_); case hw => rfl))
    go_ret
    exact ⟨rfl, hC.1⟩
  · have hl' : (decide (1000 < (a.length : Int)) || decide (1000 < (b.length : Int))) = true := by
      simp only [Bool.or_eq_true, decide_eq_true_eq]; omega
    cases ha : decide (1000 < (a.length : Int)) <;> cases hb : decide (1000 < (b.length : Int)) <;> rw [ha, hb] at hl' <;> clear hl
    all_goals first
      | (simp at hl'; done)
      | (clear hl'
         go_wp2_with (first | (with_reducible refine stop_box ?_) | (with_reducible refine stop_alloc ?_) | (with_reducible refine stop_load ?_) | (with_reducible refine stop_store ?_) | (with_reducible refine stop_make ?_) | (with_reducible refine stop_lit ?_) | (with_reducible refine stop_append ?_) | (with_reducible refine stop_copy ?_) | (with_reducible refine stop_map ?_) | (with_reducible refine stop_lookup ?_) | (with_reducible refine stop_update ?_) | (with_reducible refine stop_delete ?_) | (with_reducible refine stop_arr ?_) | (with_reducible refine stop_idx ?_) | (with_reducible refine stop_conv (e := 26) (f := 9) ?_) | ((with_reducible refine stopg_box ?hw ?_); case hw => rfl) | ((with_reducible refine stopg_alloc ?hw ?_); case hw => rfl) | ((with_reducible refine stopg_load ?hw ?_); case hw => rfl) | ((with_reducible refine stopg_store ?hw ?_); case hw => rfl) | ((with_reducible refine stopg_make ?hw ?_); case hw => rfl) | ((with_reducible refine stopg_lit ?hw ?_); case hw => rfl) | ((with_reducible refine stopg_append ?hw ?_); case hw => rfl) | ((with_reducible refine stopg_copy ?hw ?_); case hw => rfl) | ((with_reducible refine stopg_map ?hw ?_); case hw => rfl) | ((with_reducible refine stopg_lookup ?hw ?_); case hw => rfl) | ((with_reducible refine stopg_update ?hw ?_); case hw => rfl) | ((with_reducible refine stopg_delete ?hw ?_); case hw => rfl) | ((with_reducible refine stopg_arr ?hw ?_); case hw => rfl) | ((with_reducible refine stopg_conv (e := 26) (f := 9) ?hw ?_); case hw => rfl) | ((with_reducible refine stopg_idx ?hw ?_); case hw => rfl))
         go_ret
         exact ⟨rfl, k1⟩)

namespace octetsTells
open Go.ChangeShapes Go.WideShapes Go.ChangeAt Go.RowKit
theorem own : ownKnob Try.prog.godebug = none := by kernel_rfl
theorem laidOut : laidOutB Try.prog = true := by kernel_rfl
set_option maxRecDepth 100000 in
theorem lifted (os : Os) (started : os.Started) (H : Type) (enc : TypeId × Value → H) :
    ReturnsInHanded {} Try.checked os 5 .any (Rows.octetsTellsSpec.pre6 enc Try.prog Try.f5 Rows.octetsTellsRow.domain false) (Rows.octetsTellsSpec.post enc Try.prog Try.f5 false true false false) := by
  refine returnsInHanded_of_change (C := Try.checked) own started (by kernel_rfl) Try.func5
    (ChangeSpec.witness6 (enc := enc) (C := Try.checked) false ⟨#[], #[.slice none 0 0, .slice none 0 0, .int .u64 0], []⟩ 8 (by kernel_rfl) (by kernel_rfl) (by kernel_rfl) (by kernel_rfl)) ?_
  intro W base args ds gs before hval0 hW hcnd _
  have hval : ∀ (j : Nat) t v, Try.f5.params[j]? = some t → args[j]? = some v → Value.okWide Try.prog W .any base t v := hval0
  have hW' := hW
  obtain ⟨p, q, hA0, hV, rfl, hfz, hnd⟩ := hW
  have hA : DataW.TrodAll enc Try.prog W 0 (fun _ => true) true Try.f5.params.toList args.toList ds p := hA0
  rw [Try.params5] at hA hval
  obtain ⟨v0, vs0, d0, ds0, p0, q0, hargs, rfl, rfl, h0, r0⟩ := trodAll_cons hA
  obtain ⟨v1, vs1, d1, ds1, p1, q1, rfl, rfl, rfl, h1, r1⟩ := trodAll_cons r0
  obtain ⟨v2, vs2, d2, ds2, p2, q2, rfl, rfl, rfl, h2, r2⟩ := trodAll_cons r1
  obtain ⟨rfl, rfl, rfl⟩ := trodAll_nil r2
  obtain rfl : args = #[v0, v1, v2] := by cases args; simp_all
  obtain ⟨rfl, rfl⟩ := trodVars_none hV
  have k0 := h0
  have lt0 : ∀ x ∈ p0, x.block < W.heap.size := by obtain ⟨m, hm⟩ := k0; exact DataW.trod_lt m _ _ _ hm
  have k1 := h1
  have lt1 : ∀ x ∈ p1, x.block < W.heap.size := by obtain ⟨m, hm⟩ := k1; exact DataW.trod_lt m _ _ _ hm
  have k2 := h2
  have lt2 : ∀ x ∈ p2, x.block < W.heap.size := by obtain ⟨m, hm⟩ := k2; exact DataW.trod_lt m _ _ _ hm
  obtain ⟨l0, g0⟩ := open_bytes Try.underlying26 Try.underlying5 (by kernel_rfl) (hval 0 26 v0 rfl rfl) h0
  obtain ⟨l1, g1⟩ := open_bytes Try.underlying26 Try.underlying5 (by kernel_rfl) (hval 1 26 v1 rfl rfl) h1
  obtain ⟨n2, rfl, _, _, g2⟩ := open_int Try.underlying28 (hval 2 28 v2 rfl rfl) h2
  clear hA0 hval0
  refine (octetsTells.walk W v0 l0 g0 v1 l1 g1 n2 g2).mono fun e W' ⟨he, hK⟩ => ?_
  subst he
  have bel := hK.below
  exact ⟨_, rfl, _, _, _, [], _, [], hW', trodAll_mk1 (shut_bool Try.underlying4 _), (trodAll_cons_mk (Below.trod laidOut (by kernel_rfl) (of_decide_eq_true (by kernel_rfl)) k0 bel lt0) (trodAll_cons_mk (Below.trod laidOut (by kernel_rfl) (of_decide_eq_true (by kernel_rfl)) k1 bel lt1) (trodAll_cons_mk (Below.trod laidOut (by kernel_rfl) (of_decide_eq_true (by kernel_rfl)) k2 bel lt2) trodAll_mk0))), rfl, bel.frame _, fun h => by cases h⟩
theorem over : Rows.octetsTellsRow.holds Try.pinned (OpenSpec.ofChange Rows.octetsTellsSpec) :=
  OpenClaim.holds_of_wide 5 Try.f5 rfl rfl rfl rfl rfl rfl rfl ⟨rfl, rfl, rfl, rfl, rfl⟩ rfl rfl rfl rfl rfl (by kernel_rfl) Try.func5 (by kernel_rfl)
    (of_decide_eq_true (by kernel_rfl)) (by unfold Func.isWrapper; first | (rw [if_pos (by decide +kernel)]; kernel_rfl) | (rw [if_neg (by decide +kernel)]; exact ⟨rfl, rfl⟩))
    (fun os started H enc _ => lifted os started H enc)
theorem proved : Rows.OctetsTellsSaid := over
end octetsTells
/-- The row. -/
theorem octetsTells_holds : Rows.OctetsTellsSaid := octetsTells.proved
#print axioms octetsTells_holds
end Go.Proofs.Ythdendffngihbaa
