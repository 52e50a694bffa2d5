/- Any rows, joined, and the rows of any bytes, are the document's: the statement OctetsJoins. No condition. -/
import Derived.Test.YthdendffngihbaaQ01
namespace Go.Proofs.Ythdendffngihbaa
open Go.RowKit Go.PBYthdendffngihbaa
set_option linter.unusedVariables false
set_option linter.unusedSimpArgs false
set_option maxRecDepth 10000

theorem part_len {b : List UInt8} {ls : List (List UInt8)} (h : partOf b = some ls) : ls.length ≤ b.length := by
  have e := join_part b.length b ls (Nat.le_refl _) h
  subst e
  clear h
  induction ls with
  | nil => simp
  | cons x r ih => simp [joinB, highB_length]; omega

set_option maxHeartbeats 1600000 in
theorem octetsJoins.walk (w : World) (v0 : Value) (a : List (List UInt8)) (h0 : RsArg w v0 a) (v1 : Value) (b : List UInt8) (h1 : BsArg w v1 b) :
    Calls Try.prog 7 #[v0, v1] w fun e w' => e = .returned (.bool true) ∧ Kept [] w w' := by
  obtain ⟨ra, na, ba⟩ := rows_arg h0
  obtain ⟨A, c, rfl, hc, hc2, hA⟩ := h1
  clear h0
  have ba' := Lib.hid ba
  clear ba
  go_enter Try.func7, Try.ntmps7
  go_wp2_with (first | (with_reducible refine stop_box ?_) | (with_reducible refine stop_alloc ?_) | (with_reducible refine stop_load ?_) | (with_reducible refine stop_store ?_) | (with_reducible refine stop_make ?_) | (with_reducible refine stop_lit ?_) | (with_reducible refine stop_append ?_) | (with_reducible refine stop_copy ?_) | (with_reducible refine stop_map ?_) | (with_reducible refine stop_lookup ?_) | (with_reducible refine stop_update ?_) | (with_reducible refine stop_delete ?_) | (with_reducible refine stop_arr ?_) | (with_reducible refine stop_idx ?_) | (with_reducible refine stop_conv (e := 26) (f := 9) ?_) | ((with_reducible refine stopg_box ?hw ?_); case hw => rfl) | ((with_reducible refine stopg_alloc ?hw ?_); case hw => rfl) | ((with_reducible refine stopg_load ?hw ?_); case hw => rfl) | ((with_reducible refine stopg_store ?hw ?_); case hw => rfl) | ((with_reducible refine stopg_make ?hw ?_); case hw => rfl) | ((with_reducible refine stopg_lit ?hw ?_); case hw => rfl) | ((with_reducible refine stopg_append ?hw ?_); case hw => rfl) | ((with_reducible refine stopg_copy ?hw ?_); case hw => rfl) | ((with_reducible refine stopg_map ?hw ?_); case hw => rfl) | ((with_reducible refine stopg_lookup ?hw ?_); case hw => rfl) | ((with_reducible refine stopg_update ?hw ?_); case hw => rfl) | ((with_reducible refine stopg_delete ?hw ?_); case hw => rfl) | ((with_reducible refine stopg_arr ?hw ?_); case hw => rfl) | ((with_reducible refine stopg_conv (e := 26) (f := 9) ?hw ?_); case hw => rfl) | ((with_reducible refine stopg_idx ?hw ?_); case hw => rfl))
  refine (awake_calls w).mono ?_
  rintro e w1 ⟨rfl, k1⟩
  go_wp2_with (first | (with_reducible refine stop_box ?_) | (with_reducible refine stop_alloc ?_) | (with_reducible refine stop_load ?_) | (with_reducible refine stop_store ?_) | (with_reducible refine stop_make ?_) | (with_reducible refine stop_lit ?_) | (with_reducible refine stop_append ?_) | (with_reducible refine stop_copy ?_) | (with_reducible refine stop_map ?_) | (with_reducible refine stop_lookup ?_) | (with_reducible refine stop_update ?_) | (with_reducible refine stop_delete ?_) | (with_reducible refine stop_arr ?_) | (with_reducible refine stop_idx ?_) | (with_reducible refine stop_conv (e := 26) (f := 9) ?_) | ((with_reducible refine stopg_box ?hw ?_); case hw => rfl) | ((with_reducible refine stopg_alloc ?hw ?_); case hw => rfl) | ((with_reducible refine stopg_load ?hw ?_); case hw => rfl) | ((with_reducible refine stopg_store ?hw ?_); case hw => rfl) | ((with_reducible refine stopg_make ?hw ?_); case hw => rfl) | ((with_reducible refine stopg_lit ?hw ?_); case hw => rfl) | ((with_reducible refine stopg_append ?hw ?_); case hw => rfl) | ((with_reducible refine stopg_copy ?hw ?_); case hw => rfl) | ((with_reducible refine stopg_map ?hw ?_); case hw => rfl) | ((with_reducible refine stopg_lookup ?hw ?_); case hw => rfl) | ((with_reducible refine stopg_update ?hw ?_); case hw => rfl) | ((with_reducible refine stopg_delete ?hw ?_); case hw => rfl) | ((with_reducible refine stopg_arr ?hw ?_); case hw => rfl) | ((with_reducible refine stopg_conv (e := 26) (f := 9) ?hw ?_); case hw => rfl) | ((with_reducible refine stopg_idx ?hw ?_); case hw => rfl))
  refine (light_calls a v0 w1 (ra.keep k1) na ba'.out).mono ?_
  rintro e w2 ⟨rfl, k2⟩
  have k := k1.trans k2
  clear k1 k2
  cases la : lightB a with
  | false =>
    clear la
    go_wp2_with (first | (with_reducible refine stop_box ?_) | (with_reducible refine stop_alloc ?_) | (with_reducible refine stop_load ?_) | (with_reducible refine stop_store ?_) | (with_reducible refine stop_make ?_) | (with_reducible refine stop_lit ?_) | (with_reducible refine stop_append ?_) | (with_reducible refine stop_copy ?_) | (with_reducible refine stop_map ?_) | (with_reducible refine stop_lookup ?_) | (with_reducible refine stop_update ?_) | (with_reducible refine stop_delete ?_) | (with_reducible refine stop_arr ?_) | (with_reducible refine stop_idx ?_) | (with_reducible refine stop_conv (e := 26) (f := 9) ?_) | ((with_reducible refine stopg_box ?hw ?_); case hw => rfl) | ((with_reducible refine stopg_alloc ?hw ?_); case hw => rfl) | ((with_reducible refine stopg_load ?hw ?_); case hw => rfl) | ((with_reducible refine stopg_store ?hw ?_); case hw => rfl) | ((with_reducible refine stopg_make ?hw ?_); case hw => rfl) | ((with_reducible refine stopg_lit ?hw ?_); case hw => rfl) | ((with_reducible refine stopg_append ?hw ?_); case hw => rfl) | ((with_reducible refine stopg_copy ?hw ?_); case hw => rfl) | ((with_reducible refine stopg_map ?hw ?_); case hw => rfl) | ((with_reducible refine stopg_lookup ?hw ?_); case hw => rfl) | ((with_reducible refine stopg_update ?hw ?_); case hw => rfl) | ((with_reducible refine stopg_delete ?hw ?_); case hw => rfl) | ((with_reducible refine stopg_arr ?hw ?_); case hw => rfl) | ((with_reducible refine stopg_conv (e := 26) (f := 9) ?hw ?_); case hw => rfl) | ((with_reducible refine stopg_idx ?hw ?_); case hw => rfl))
    go_ret
    exact ⟨rfl, k⟩
  | true =>
    have ja := Lib.hid (light_join la)
    clear la
    by_cases hb : b.length ≤ 2000
    · have hb' : decide (2000 < (b.length : Int)) = false := by simp; omega
      go_wp2_with (first | (with_reducible refine stop_box ?_) | (with_reducible refine stop_alloc ?_) | (with_reducible refine stop_load ?_) | (with_reducible refine stop_store ?_) | (with_reducible refine stop_make ?_) | (with_reducible refine stop_lit ?_) | (with_reducible refine stop_append ?_) | (with_reducible refine stop_copy ?_) | (with_reducible refine stop_map ?_) | (with_reducible refine stop_lookup ?_) | (with_reducible refine stop_update ?_) | (with_reducible refine stop_delete ?_) | (with_reducible refine stop_arr ?_) | (with_reducible refine stop_idx ?_) | (with_reducible refine stop_conv (e := 26) (f := 9) ?_) | ((with_reducible refine stopg_box ?hw ?_); case hw => rfl) | ((with_reducible refine stopg_alloc ?hw ?_); case hw => rfl) | ((with_reducible refine stopg_load ?hw ?_); case hw => rfl) | ((with_reducible refine stopg_store ?hw ?_); case hw => rfl) | ((with_reducible refine stopg_make ?hw ?_); case hw => rfl) | ((with_reducible refine stopg_lit ?hw ?_); case hw => rfl) | ((with_reducible refine stopg_append ?hw ?_); case hw => rfl) | ((with_reducible refine stopg_copy ?hw ?_); case hw => rfl) | ((with_reducible refine stopg_map ?hw ?_); case hw => rfl) | ((with_reducible refine stopg_lookup ?hw ?_); case hw => rfl) | ((with_reducible refine stopg_update ?hw ?_); case hw => rfl) | ((with_reducible refine stopg_delete ?hw ?_); case hw => rfl) | ((with_reducible refine stopg_arr ?hw ?_); case hw => rfl) | ((with_reducible refine stopg_conv (e := 26) (f := 9) ?hw ?_); case hw => rfl) | ((with_reducible refine stopg_idx ?hw ?_); case hw => rfl))
      refine (part_calls b A c w2 (hA.keep k) hc (by omega)).mono ?_
      rintro e w3 h3
      have h3' : ∃ (x : Value) (n : Int) (ls : List (List UInt8)), e = .returned (.tuple #[x, .int .i64 n]) ∧ Kept [] w2 w3 ∧ RowsAt w3 x ls ∧ ls.length ≤ 2000 ∧ Hid ((partOf b = none ∧ n = 3 ∧ ls = []) ∨ (partOf b = some ls ∧ n = 0)) := by
        rcases h3 with ⟨hp, rfl, hk⟩ | ⟨ls, v, vs, hp, rfl, hl, H⟩
        · exact ⟨_, _, [], rfl, hk, ⟨none, 0, [], rfl, Nat.le_refl _, SlAt.nil _ _, rfl, by simp⟩, by simp, .inl ⟨hp, rfl, rfl⟩⟩
        · exact ⟨_, _, ls, rfl, H.kept, rows_inner hl H, by have := part_len hp; omega, .inr ⟨hp, rfl⟩⟩
      clear h3
      obtain ⟨x, n, ls, rfl, k3, rx, nx, px⟩ := h3'
      go_wp2_with (first | (with_reducible refine stop_box ?_) | (with_reducible refine stop_alloc ?_) | (with_reducible refine stop_load ?_) | (with_reducible refine stop_store ?_) | (with_reducible refine stop_make ?_) | (with_reducible refine stop_lit ?_) | (with_reducible refine stop_append ?_) | (with_reducible refine stop_copy ?_) | (with_reducible refine stop_map ?_) | (with_reducible refine stop_lookup ?_) | (with_reducible refine stop_update ?_) | (with_reducible refine stop_delete ?_) | (with_reducible refine stop_arr ?_) | (with_reducible refine stop_idx ?_) | (with_reducible refine stop_conv (e := 26) (f := 9) ?_) | ((with_reducible refine stopg_box ?hw ?_); case hw => rfl) | ((with_reducible refine stopg_alloc ?hw ?_); case hw => rfl) | ((with_reducible refine stopg_load ?hw ?_); case hw => rfl) | ((with_reducible refine stopg_store ?hw ?_); case hw => rfl) | ((with_reducible refine stopg_make ?hw ?_); case hw => rfl) | ((with_reducible refine stopg_lit ?hw ?_); case hw => rfl) | ((with_reducible refine stopg_append ?hw ?_); case hw => rfl) | ((with_reducible refine stopg_copy ?hw ?_); case hw => rfl) | ((with_reducible refine stopg_map ?hw ?_); case hw => rfl) | ((with_reducible refine stopg_lookup ?hw ?_); case hw => rfl) | ((with_reducible refine stopg_update ?hw ?_); case hw => rfl) | ((with_reducible refine stopg_delete ?hw ?_); case hw => rfl) | ((with_reducible refine stopg_arr ?hw ?_); case hw => rfl) | ((with_reducible refine stopg_conv (e := 26) (f := 9) ?hw ?_); case hw => rfl) | ((with_reducible refine stopg_idx ?hw ?_); case hw => rfl))
      refine (rpart_calls b A c w3 (hA.keep (k.trans k3)) hc (by omega)).mono ?_
      rintro e w4 h4
      have h4' : ∃ (y : Value), e = .returned (.tuple #[y, .int .i64 n]) ∧ Kept [] w3 w4 ∧ RowsAt w4 y ls := by
        rcases h4 with ⟨hp, rfl, hk⟩ | ⟨ms, v, vs, hp, rfl, hl, H⟩
        · rcases px.out with ⟨hp', rfl, rfl⟩ | ⟨hp', rfl⟩
          · exact ⟨_, rfl, hk, ⟨none, 0, [], rfl, Nat.le_refl _, SlAt.nil _ _, rfl, by simp⟩⟩
          · rw [hp] at hp'; simp at hp'
        · rcases px.out with ⟨hp', rfl, rfl⟩ | ⟨hp', rfl⟩
          · rw [hp] at hp'; simp at hp'
          · rw [hp] at hp'
            obtain rfl := Option.some.inj hp'
            exact ⟨_, rfl, H.kept, rows_inner hl H⟩
      clear h4
      obtain ⟨y, rfl, k4, ry⟩ := h4'
      go_wp2_with (first | (with_reducible refine stop_box ?_) | (with_reducible refine stop_alloc ?_) | (with_reducible refine stop_load ?_) | (with_reducible refine stop_store ?_) | (with_reducible refine stop_make ?_) | (with_reducible refine stop_lit ?_) | (with_reducible refine stop_append ?_) | (with_reducible refine stop_copy ?_) | (with_reducible refine stop_map ?_) | (with_reducible refine stop_lookup ?_) | (with_reducible refine stop_update ?_) | (with_reducible refine stop_delete ?_) | (with_reducible refine stop_arr ?_) | (with_reducible refine stop_idx ?_) | (with_reducible refine stop_conv (e := 26) (f := 9) ?_) | ((with_reducible refine stopg_box ?hw ?_); case hw => rfl) | ((with_reducible refine stopg_alloc ?hw ?_); case hw => rfl) | ((with_reducible refine stopg_load ?hw ?_); case hw => rfl) | ((with_reducible refine stopg_store ?hw ?_); case hw => rfl) | ((with_reducible refine stopg_make ?hw ?_); case hw => rfl) | ((with_reducible refine stopg_lit ?hw ?_); case hw => rfl) | ((with_reducible refine stopg_append ?hw ?_); case hw => rfl) | ((with_reducible refine stopg_copy ?hw ?_); case hw => rfl) | ((with_reducible refine stopg_map ?hw ?_); case hw => rfl) | ((with_reducible refine stopg_lookup ?hw ?_); case hw => rfl) | ((with_reducible refine stopg_update ?hw ?_); case hw => rfl) | ((with_reducible refine stopg_delete ?hw ?_); case hw => rfl) | ((with_reducible refine stopg_arr ?hw ?_); case hw => rfl) | ((with_reducible refine stopg_conv (e := 26) (f := 9) ?hw ?_); case hw => rfl) | ((with_reducible refine stopg_idx ?hw ?_); case hw => rfl))
      refine (sameRows_calls ls ls x y w4 (rx.keep k4) ry (by omega) (by omega)).mono ?_
      rintro e w5 ⟨rfl, k5⟩
      rw [decide_eq_true rfl]
      have k6 := ((k.trans k3).trans k4).trans k5
      clear k k3 k4 k5
      go_wp2_with (first | (with_reducible refine stop_box ?_) | (with_reducible refine stop_alloc ?_) | (with_reducible refine stop_load ?_) | (with_reducible refine stop_store ?_) | (with_reducible refine stop_make ?_) | (with_reducible refine stop_lit ?_) | (with_reducible refine stop_append ?_) | (with_reducible refine stop_copy ?_) | (with_reducible refine stop_map ?_) | (with_reducible refine stop_lookup ?_) | (with_reducible refine stop_update ?_) | (with_reducible refine stop_delete ?_) | (with_reducible refine stop_arr ?_) | (with_reducible refine stop_idx ?_) | (with_reducible refine stop_conv (e := 26) (f := 9) ?_) | ((with_reducible refine stopg_box ?hw ?_); case hw => rfl) | ((with_reducible refine stopg_alloc ?hw ?_); case hw => rfl) | ((with_reducible refine stopg_load ?hw ?_); case hw => rfl) | ((with_reducible refine stopg_store ?hw ?_); case hw => rfl) | ((with_reducible refine stopg_make ?hw ?_); case hw => rfl) | ((with_reducible refine stopg_lit ?hw ?_); case hw => rfl) | ((with_reducible refine stopg_append ?hw ?_); case hw => rfl) | ((with_reducible refine stopg_copy ?hw ?_); case hw => rfl) | ((with_reducible refine stopg_map ?hw ?_); case hw => rfl) | ((with_reducible refine stopg_lookup ?hw ?_); case hw => rfl) | ((with_reducible refine stopg_update ?hw ?_); case hw => rfl) | ((with_reducible refine stopg_delete ?hw ?_); case hw => rfl) | ((with_reducible refine stopg_arr ?hw ?_); case hw => rfl) | ((with_reducible refine stopg_conv (e := 26) (f := 9) ?hw ?_); case hw => rfl) | ((with_reducible refine stopg_idx ?hw ?_); case hw => rfl))
      refine wp_region_all (n := 54) (fun w' => Kept [] w w') (regF [fun v _ => v = .bool true, fun v _ => v = .bool true, fun v _ => v = v0, fun v w' => BsAt w' v (joinB a), fun v _ => v = .string ⟨(joinB a).toArray⟩, fun v _ => v = v0, fun v w' => BsAt w' v (joinB a), fun v _ => v = .string ⟨(joinB a).toArray⟩, fun v _ => v = .bool true, fun v _ => v = .bool true, fun v _ => v = .bool true, fun v _ => v = .bool true, fun v _ => v = .bool true, fun v _ => v = .bool true, fun v _ => v = .int .i64 n, fun v _ => v = .int .i64 n, fun v _ => v = .bool true, fun v _ => v = .bool true, fun v _ => v = .bool true]) [[], [(36, 0)], [(37, 1)], [(38, 2), (37, 1)], [(39, 3), (37, 1)], [(37, 1)], [(41, 5), (39, 3), (37, 1)], [(42, 6), (37, 1)], [(40, 4), (43, 7), (37, 1)], [(37, 1), (44, 8)], [(45, 9), (42, 6)], [(46, 10)], [(46, 10), (47, 11)], [(48, 12), (46, 10)], [(49, 13)], [(49, 13)], [(50, 14), (51, 15), (49, 13)], [(49, 13), (52, 16)], [(53, 17), (49, 13), (36, 0), (37, 1), (38, 2), (39, 3), (40, 4), (41, 5), (42, 6), (43, 7), (44, 8), (45, 9), (46, 10), (47, 11), (48, 12), (50, 14), (51, 15), (52, 16)]] [(36, 0), (37, 1), (38, 2), (39, 3), (40, 4), (41, 5), (42, 6), (43, 7), (44, 8), (45, 9), (46, 10), (47, 11), (48, 12), (49, 13), (50, 14), (51, 15), (52, 16), (53, 17), (4, 18)] (by kernel_rfl) (by kernel_rfl) rfl k6.drew (regF_stable ⟨Stable.eq _, Stable.eq _, Stable.eq _, (fun _ _ hK _ h => BsAt.keep h hK), Stable.eq _, Stable.eq _, (fun _ _ hK _ h => BsAt.keep h hK), Stable.eq _, Stable.eq _, Stable.eq _, Stable.eq _, Stable.eq _, Stable.eq _, Stable.eq _, Stable.eq _, Stable.eq _, Stable.eq _, Stable.eq _, Stable.eq _, trivial⟩) ⟨?_, ?_, ?_, ?_, ?_, ?_, ?_, ?_, ?_, ?_, ?_, ?_, ?_, ?_, ?_, ?_, ?_, ?_, ?_, trivial⟩ ?_
      · intro vx w9 hC hF
        clear hF
        refine .inl ⟨trivial, ?_⟩
        simp only [putsOf]
        exact opw_val (v := .bool true) (w' := w9) (by go_simp <;> (simp only [IntKind.wrap_u64, IntKind.wrap_i64] <;> omega)) ⟨_, rfl, by simp, hC, (Kept.refl _ _), rfl⟩
      · intro vx w9 hC hF
        have q0 : (vx 0) = .bool true := hF (36, 0) (by simp)
        clear hF
        refine .inl ⟨trivial, ?_⟩
        simp only [putsOf, q0]
        exact opw_val (v := .bool true) (w' := w9) (by go_simp <;> (simp only [IntKind.wrap_u64, IntKind.wrap_i64] <;> omega)) ⟨_, rfl, by simp, hC, (Kept.refl _ _), rfl⟩
      · intro vx w9 hC hF
        have q1 : (vx 1) = .bool true := hF (37, 1) (by simp)
        clear hF
        refine .inl ⟨⟨q1, rfl⟩, ?_⟩
        simp only [putsOf, q1]
        exact opw_val (v := v0) (w' := w9) (by go_simp <;> (simp only [IntKind.wrap_u64, IntKind.wrap_i64] <;> omega)) ⟨_, rfl, by simp, hC, (Kept.refl _ _), rfl⟩
      · intro vx w9 hC hF
        have q2 : (vx 2) = v0 := hF (38, 2) (by simp)
        have q1 : (vx 1) = .bool true := hF (37, 1) (by simp)
        clear hF
        refine .inl ⟨⟨q1, rfl⟩, ?_⟩
        simp only [putsOf, q2, q1]
        refine opw_call [v0] Try.func12 rfl (by kernel_rfl) rfl ?_
        refine (join_calls a v0 w9 (ra.keep hC) (by have := ja.out; omega) (by have := ja.out; omega)).mono ?_
        rintro e w1 ⟨v, rfl, H1⟩
        exact ⟨_, rfl, _, rfl, by simp, (by first | exact hC.trans H1.kept | exact ⟨hC.1.trans H1.kept, hC.2.trans H1.kept⟩), H1.kept, Row.bs (H1.get (k := 0) rfl)⟩
      · intro vx w9 hC hF
        have q3 : BsAt w9 (vx 3) (joinB a) := hF (39, 3) (by simp)
        have p3 := q3
        obtain ⟨A3, c3, e3, l3, s3⟩ := q3
        have q1 : (vx 1) = .bool true := hF (37, 1) (by simp)
        clear hF
        refine .inl ⟨⟨q1, rfl⟩, ?_⟩
        simp only [putsOf, e3, q1]
        exact opw_str (l := joinB a) Try.underlying26 Try.underlying5 Try.underlying9 rfl (s3) rfl ⟨_, rfl, by simp, hC, Kept.refl _ _, rfl⟩
      · intro vx w9 hC hF
        have q1 : (vx 1) = .bool true := hF (37, 1) (by simp)
        clear hF
        refine .inl ⟨⟨q1, rfl⟩, ?_⟩
        simp only [putsOf, q1]
        exact opw_val (v := v0) (w' := w9) (by go_simp <;> (simp only [IntKind.wrap_u64, IntKind.wrap_i64] <;> omega)) ⟨_, rfl, by simp, hC, (Kept.refl _ _), rfl⟩
      · intro vx w9 hC hF
        have q5 : (vx 5) = v0 := hF (41, 5) (by simp)
        have q3 : BsAt w9 (vx 3) (joinB a) := hF (39, 3) (by simp)
        have p3 := q3
        obtain ⟨A3, c3, e3, l3, s3⟩ := q3
        have q1 : (vx 1) = .bool true := hF (37, 1) (by simp)
        clear hF
        refine .inl ⟨⟨q1, rfl⟩, ?_⟩
        simp only [putsOf, q5, e3, q1]
        refine opw_call [v0] Try.func27 rfl (by kernel_rfl) rfl ?_
        refine (rjoin_calls a v0 w9 (ra.keep hC) (by have := ja.out; omega) (by have := ja.out; omega)).mono ?_
        rintro e w1 ⟨v, rfl, H1⟩
        exact ⟨_, rfl, _, rfl, by simp, (by first | exact hC.trans H1.kept | exact ⟨hC.1.trans H1.kept, hC.2.trans H1.kept⟩), H1.kept, Row.bs (H1.get (k := 0) rfl)⟩
      · intro vx w9 hC hF
        have q6 : BsAt w9 (vx 6) (joinB a) := hF (42, 6) (by simp)
        have p6 := q6
        obtain ⟨A6, c6, e6, l6, s6⟩ := q6
        have q1 : (vx 1) = .bool true := hF (37, 1) (by simp)
        clear hF
        refine .inl ⟨⟨q1, rfl⟩, ?_⟩
        simp only [putsOf, e6, q1]
        exact opw_str (l := joinB a) Try.underlying26 Try.underlying5 Try.underlying9 rfl (s6) rfl ⟨_, rfl, by simp, hC, Kept.refl _ _, rfl⟩
      · intro vx w9 hC hF
        have q4 : (vx 4) = .string ⟨(joinB a).toArray⟩ := hF (40, 4) (by simp)
        have q7 : (vx 7) = .string ⟨(joinB a).toArray⟩ := hF (43, 7) (by simp)
        have q1 : (vx 1) = .bool true := hF (37, 1) (by simp)
        clear hF
        refine .inl ⟨⟨q1, rfl⟩, ?_⟩
        simp only [putsOf, q4, q7, q1]
        exact opw_val (v := .bool true) (w' := w9) (by go_simp <;> (simp only [IntKind.wrap_u64, IntKind.wrap_i64] <;> omega)) ⟨_, rfl, by simp, hC, (Kept.refl _ _), rfl⟩
      · intro vx w9 hC hF
        have q1 : (vx 1) = .bool true := hF (37, 1) (by simp)
        have q8 : (vx 8) = .bool true := hF (44, 8) (by simp)
        clear hF
        refine .inl ⟨trivial, ?_⟩
        simp only [putsOf, q1, q8]
        exact opw_val (v := .bool true) (w' := w9) (by go_simp <;> (simp only [IntKind.wrap_u64, IntKind.wrap_i64] <;> omega)) ⟨_, rfl, by simp, hC, (Kept.refl _ _), rfl⟩
      · intro vx w9 hC hF
        have q9 : (vx 9) = .bool true := hF (45, 9) (by simp)
        have q6 : BsAt w9 (vx 6) (joinB a) := hF (42, 6) (by simp)
        have p6 := q6
        obtain ⟨A6, c6, e6, l6, s6⟩ := q6
        clear hF
        refine .inl ⟨trivial, ?_⟩
        simp only [putsOf, q9, e6]
        exact opw_val (v := .bool true) (w' := w9) (by go_simp <;> (simp only [IntKind.wrap_u64, IntKind.wrap_i64] <;> omega)) ⟨_, rfl, by simp, hC, (Kept.refl _ _), rfl⟩
      · intro vx w9 hC hF
        have q10 : (vx 10) = .bool true := hF (46, 10) (by simp)
        clear hF
        refine .inl ⟨⟨q10, rfl⟩, ?_⟩
        simp only [putsOf, q10]
        exact opw_val (v := .bool true) (w' := w9) (by go_simp <;> (simp only [IntKind.wrap_u64, IntKind.wrap_i64] <;> omega)) ⟨_, rfl, by simp, hC, (Kept.refl _ _), rfl⟩
      · intro vx w9 hC hF
        have q10 : (vx 10) = .bool true := hF (46, 10) (by simp)
        have q11 : (vx 11) = .bool true := hF (47, 11) (by simp)
        clear hF
        refine .inl ⟨trivial, ?_⟩
        simp only [putsOf, q10, q11]
        exact opw_val (v := .bool true) (w' := w9) (by go_simp <;> (simp only [IntKind.wrap_u64, IntKind.wrap_i64] <;> omega)) ⟨_, rfl, by simp, hC, (Kept.refl _ _), rfl⟩
      · intro vx w9 hC hF
        have q12 : (vx 12) = .bool true := hF (48, 12) (by simp)
        have q10 : (vx 10) = .bool true := hF (46, 10) (by simp)
        clear hF
        refine .inl ⟨trivial, ?_⟩
        simp only [putsOf, q12, q10]
        exact opw_val (v := .bool true) (w' := w9) (by go_simp <;> (simp only [IntKind.wrap_u64, IntKind.wrap_i64] <;> omega)) ⟨_, rfl, by simp, hC, (Kept.refl _ _), rfl⟩
      · intro vx w9 hC hF
        have q13 : (vx 13) = .bool true := hF (49, 13) (by simp)
        clear hF
        refine .inl ⟨⟨q13, rfl⟩, ?_⟩
        simp only [putsOf, q13]
        exact opw_val (v := .int .i64 n) (w' := w9) (by go_simp <;> (simp only [IntKind.wrap_u64, IntKind.wrap_i64] <;> omega)) ⟨_, rfl, by simp, hC, (Kept.refl _ _), rfl⟩
      · intro vx w9 hC hF
        have q13 : (vx 13) = .bool true := hF (49, 13) (by simp)
        clear hF
        refine .inl ⟨⟨q13, rfl⟩, ?_⟩
        simp only [putsOf, q13]
        exact opw_val (v := .int .i64 n) (w' := w9) (by go_simp <;> (simp only [IntKind.wrap_u64, IntKind.wrap_i64] <;> omega)) ⟨_, rfl, by simp, hC, (Kept.refl _ _), rfl⟩
      · intro vx w9 hC hF
        have q14 : (vx 14) = .int .i64 n := hF (50, 14) (by simp)
        have q15 : (vx 15) = .int .i64 n := hF (51, 15) (by simp)
        have q13 : (vx 13) = .bool true := hF (49, 13) (by simp)
        clear hF
        refine .inl ⟨⟨q13, rfl⟩, ?_⟩
        simp only [putsOf, q14, q15, q13]
        exact opw_val (v := .bool true) (w' := w9) (by go_simp <;> (simp only [IntKind.wrap_u64, IntKind.wrap_i64] <;> omega)) ⟨_, rfl, by simp, hC, (Kept.refl _ _), rfl⟩
      · intro vx w9 hC hF
        have q13 : (vx 13) = .bool true := hF (49, 13) (by simp)
        have q16 : (vx 16) = .bool true := hF (52, 16) (by simp)
        clear hF
        refine .inl ⟨trivial, ?_⟩
        simp only [putsOf, q13, q16]
        exact opw_val (v := .bool true) (w' := w9) (by go_simp <;> (simp only [IntKind.wrap_u64, IntKind.wrap_i64] <;> omega)) ⟨_, rfl, by simp, hC, (Kept.refl _ _), rfl⟩
      · intro vx w9 hC hF
        have q17 : (vx 17) = .bool true := hF (53, 17) (by simp)
        have q13 : (vx 13) = .bool true := hF (49, 13) (by simp)
        have q0 : (vx 0) = .bool true := hF (36, 0) (by simp)
        have q1 : (vx 1) = .bool true := hF (37, 1) (by simp)
        have q2 : (vx 2) = v0 := hF (38, 2) (by simp)
        have q3 : BsAt w9 (vx 3) (joinB a) := hF (39, 3) (by simp)
        have p3 := q3
        obtain ⟨A3, c3, e3, l3, s3⟩ := q3
        have q4 : (vx 4) = .string ⟨(joinB a).toArray⟩ := hF (40, 4) (by simp)
        have q5 : (vx 5) = v0 := hF (41, 5) (by simp)
        have q6 : BsAt w9 (vx 6) (joinB a) := hF (42, 6) (by simp)
        have p6 := q6
        obtain ⟨A6, c6, e6, l6, s6⟩ := q6
        have q7 : (vx 7) = .string ⟨(joinB a).toArray⟩ := hF (43, 7) (by simp)
        have q8 : (vx 8) = .bool true := hF (44, 8) (by simp)
        have q9 : (vx 9) = .bool true := hF (45, 9) (by simp)
        have q10 : (vx 10) = .bool true := hF (46, 10) (by simp)
        have q11 : (vx 11) = .bool true := hF (47, 11) (by simp)
        have q12 : (vx 12) = .bool true := hF (48, 12) (by simp)
        have q14 : (vx 14) = .int .i64 n := hF (50, 14) (by simp)
        have q15 : (vx 15) = .int .i64 n := hF (51, 15) (by simp)
        have q16 : (vx 16) = .bool true := hF (52, 16) (by simp)
        clear hF
        refine .inl ⟨trivial, ?_⟩
        simp only [putsOf, q17, q13, q0, q1, q2, e3, q4, q5, e6, q7, q8, q9, q10, q11, q12, q14, q15, q16]
        exact opw_val (v := .bool true) (w' := w9) (by go_simp <;> (simp only [IntKind.wrap_u64, IntKind.wrap_i64] <;> omega)) ⟨_, rfl, by simp, hC, (Kept.refl _ _), rfl⟩
      intro vx w9 hC hF
      have q0 : (vx 0) = .bool true := hF 0 (by simp)
      have q1 : (vx 1) = .bool true := hF 1 (by simp)
      have q2 : (vx 2) = v0 := hF 2 (by simp)
      have q3 : BsAt w9 (vx 3) (joinB a) := hF 3 (by simp)
      have p3 := q3
      obtain ⟨A3, c3, e3, l3, s3⟩ := q3
      have q4 : (vx 4) = .string ⟨(joinB a).toArray⟩ := hF 4 (by simp)
      have q5 : (vx 5) = v0 := hF 5 (by simp)
      have q6 : BsAt w9 (vx 6) (joinB a) := hF 6 (by simp)
      have p6 := q6
      obtain ⟨A6, c6, e6, l6, s6⟩ := q6
      have q7 : (vx 7) = .string ⟨(joinB a).toArray⟩ := hF 7 (by simp)
      have q8 : (vx 8) = .bool true := hF 8 (by simp)
      have q9 : (vx 9) = .bool true := hF 9 (by simp)
      have q10 : (vx 10) = .bool true := hF 10 (by simp)
      have q11 : (vx 11) = .bool true := hF 11 (by simp)
      have q12 : (vx 12) = .bool true := hF 12 (by simp)
      have q13 : (vx 13) = .bool true := hF 13 (by simp)
      have q14 : (vx 14) = .int .i64 n := hF 14 (by simp)
      have q15 : (vx 15) = .int .i64 n := hF 15 (by simp)
      have q16 : (vx 16) = .bool true := hF 16 (by simp)
      have q17 : (vx 17) = .bool true := hF 17 (by simp)
      have q18 : (vx 18) = .bool true := hF 18 (by simp)
      clear hF
      simp only [putsOf, q0, q1, q2, e3, q4, q5, e6, q7, q8, q9, q10, q11, q12, q13, q14, q15, q16, q17, q18]
      simp only [Act.put, List.setIfInBounds_toArray, List.set_cons_succ, List.set_cons_zero]
      clear q0 q1 q2 q4 q5 q7 q8 q9 q10 q11 q12 q13 q14 q15 q16 q17 q18
      go_wp2_with (first | (with_reducible refine stop_box ?_) | (with_reducible refine stop_alloc ?_) | (with_reducible refine stop_load ?_) | (with_reducible refine stop_store ?_) | (with_reducible refine stop_make ?_) | (with_reducible refine stop_lit ?_) | (with_reducible refine stop_append ?_) | (with_reducible refine stop_copy ?_) | (with_reducible refine stop_map ?_) | (with_reducible refine stop_lookup ?_) | (with_reducible refine stop_update ?_) | (with_reducible refine stop_delete ?_) | (with_reducible refine stop_arr ?_) | (with_reducible refine stop_idx ?_) | (with_reducible refine stop_conv (e := 26) (f := 9) ?_) | ((with_reducible refine stopg_box ?hw ?_); case hw => rfl) | ((with_reducible refine stopg_alloc ?hw ?_); case hw => rfl) | ((with_reducible refine stopg_load ?hw ?_); case hw => rfl) | ((with_reducible refine stopg_store ?hw ?_); case hw => rfl) | ((with_reducible refine stopg_make ?hw ?_); case hw => rfl) | ((with_reducible refine stopg_lit ?hw ?_); case hw => rfl) | ((with_reducible refine stopg_append ?hw ?_); case hw => rfl) | ((with_reducible refine stopg_copy ?hw ?_); case hw => rfl) | ((with_reducible refine stopg_map ?hw ?_); case hw => rfl) | ((with_reducible refine stopg_lookup ?hw ?_); case hw => rfl) | ((with_reducible refine stopg_update ?hw ?_); case hw => rfl) | ((with_reducible refine stopg_delete ?hw ?_); case hw => rfl) | ((with_reducible refine stopg_arr ?hw ?_); case hw => rfl) | ((with_reducible refine stopg_conv (e := 26) (f := 9) ?hw ?_); case hw => rfl) | ((with_reducible refine stopg_idx ?hw ?_); case hw => rfl))
      go_ret
      exact ⟨rfl, hC⟩
    · have hb' : decide (2000 < (b.length : Int)) = true := by simp; omega
      go_wp2_with (first | (with_reducible refine stop_box ?_) | (with_reducible refine stop_alloc ?_) | (with_reducible refine stop_load ?_) | (with_reducible refine stop_store ?_) | (with_reducible refine stop_make ?_) | (with_reducible refine stop_lit ?_) | (with_reducible refine stop_append ?_) | (with_reducible refine stop_copy ?_) | (with_reducible refine stop_map ?_) | (with_reducible refine stop_lookup ?_) | (with_reducible refine stop_update ?_) | (with_reducible refine stop_delete ?_) | (with_reducible refine stop_arr ?_) | (with_reducible refine stop_idx ?_) | (with_reducible refine stop_conv (e := 26) (f := 9) ?_) | ((with_reducible refine stopg_box ?hw ?_); case hw => rfl) | ((with_reducible refine stopg_alloc ?hw ?_); case hw => rfl) | ((with_reducible refine stopg_load ?hw ?_); case hw => rfl) | ((with_reducible refine stopg_store ?hw ?_); case hw => rfl) | ((with_reducible refine stopg_make ?hw ?_); case hw => rfl) | ((with_reducible refine stopg_lit ?hw ?_); case hw => rfl) | ((with_reducible refine stopg_append ?hw ?_); case hw => rfl) | ((with_reducible refine stopg_copy ?hw ?_); case hw => rfl) | ((with_reducible refine stopg_map ?hw ?_); case hw => rfl) | ((with_reducible refine stopg_lookup ?hw ?_); case hw => rfl) | ((with_reducible refine stopg_update ?hw ?_); case hw => rfl) | ((with_reducible refine stopg_delete ?hw ?_); case hw => rfl) | ((with_reducible refine stopg_arr ?hw ?_); case hw => rfl) | ((with_reducible refine stopg_conv (e := 26) (f := 9) ?hw ?_); case hw => rfl) | ((with_reducible refine stopg_idx ?hw ?_); case hw => rfl))
      go_ret
      exact ⟨rfl, k⟩

namespace octetsJoins
open Go.ChangeShapes Go.WideShapes Go.ChangeAt Go.RowKit
theorem own : ownKnob Try.prog.godebug = none := by kernel_rfl
theorem laidOut : laidOutB Try.prog = true := by kernel_rfl
set_option maxRecDepth 100000 in
theorem lifted (os : Os) (started : os.Started) (H : Type) (enc : TypeId × Value → H) :
    ReturnsInHanded {} Try.checked os 7 .any (Rows.octetsJoinsSpec.pre6 enc Try.prog Try.f7 Rows.octetsJoinsRow.domain false) (Rows.octetsJoinsSpec.post enc Try.prog Try.f7 false true false false) := by
  refine returnsInHanded_of_change (C := Try.checked) own started (by kernel_rfl) Try.func7
    (ChangeSpec.witness6 (enc := enc) (C := Try.checked) false ⟨#[], #[.slice none 0 0, .slice none 0 0], []⟩ 8 (by kernel_rfl) (by kernel_rfl) (by kernel_rfl) (by kernel_rfl)) ?_
  intro W base args ds gs before hval0 hW hcnd _
  have hval : ∀ (j : Nat) t v, Try.f7.params[j]? = some t → args[j]? = some v → Value.okWide Try.prog W .any base t v := hval0
  have hW' := hW
  obtain ⟨p, q, hA0, hV, rfl, hfz, hnd⟩ := hW
  have hA : DataW.TrodAll enc Try.prog W 0 (fun _ => true) true Try.f7.params.toList args.toList ds p := hA0
  rw [Try.params7] at hA hval
  obtain ⟨v0, vs0, d0, ds0, p0, q0, hargs, rfl, rfl, h0, r0⟩ := trodAll_cons hA
  obtain ⟨v1, vs1, d1, ds1, p1, q1, rfl, rfl, rfl, h1, r1⟩ := trodAll_cons r0
  obtain ⟨rfl, rfl, rfl⟩ := trodAll_nil r1
  obtain rfl : args = #[v0, v1] := by cases args; simp_all
  obtain ⟨rfl, rfl⟩ := trodVars_none hV
  have k0 := h0
  have lt0 : ∀ x ∈ p0, x.block < W.heap.size := by obtain ⟨m, hm⟩ := k0; exact DataW.trod_lt m _ _ _ hm
  have k1 := h1
  have lt1 : ∀ x ∈ p1, x.block < W.heap.size := by obtain ⟨m, hm⟩ := k1; exact DataW.trod_lt m _ _ _ hm
  obtain ⟨l0, g0⟩ := open_rows8 Try.underlying22 Try.underlying26 Try.underlying5 (by kernel_rfl) (by kernel_rfl) (hval 0 22 v0 rfl rfl) h0
  obtain ⟨l1, g1⟩ := open_bytes Try.underlying26 Try.underlying5 (by kernel_rfl) (hval 1 26 v1 rfl rfl) h1
  clear hA0 hval0
  refine (octetsJoins.walk W v0 l0 g0 v1 l1 g1).mono fun e W' ⟨he, hK⟩ => ?_
  subst he
  have bel := hK.below
  exact ⟨_, rfl, _, _, _, [], _, [], hW', trodAll_mk1 (shut_bool Try.underlying4 _), (trodAll_cons_mk (Below.trod laidOut (by kernel_rfl) (of_decide_eq_true (by kernel_rfl)) k0 bel lt0) (trodAll_cons_mk (Below.trod laidOut (by kernel_rfl) (of_decide_eq_true (by kernel_rfl)) k1 bel lt1) trodAll_mk0)), rfl, bel.frame _, fun h => by cases h⟩
theorem over : Rows.octetsJoinsRow.holds Try.pinned (OpenSpec.ofChange Rows.octetsJoinsSpec) :=
  OpenClaim.holds_of_wide 7 Try.f7 rfl rfl rfl rfl rfl rfl rfl ⟨rfl, rfl, rfl, rfl, rfl⟩ rfl rfl rfl rfl rfl (by kernel_rfl) Try.func7 (by kernel_rfl)
    (of_decide_eq_true (by kernel_rfl)) (by unfold Func.isWrapper; first | (rw [if_pos (by decide +kernel)]; kernel_rfl) | (rw [if_neg (by decide +kernel)]; exact ⟨rfl, rfl⟩))
    (fun os started H enc _ => lifted os started H enc)
theorem proved : Rows.OctetsJoinsSaid := over
end octetsJoins
/-- The row. -/
theorem octetsJoins_holds : Rows.OctetsJoinsSaid := octetsJoins.proved
#print axioms octetsJoins_holds
end Go.Proofs.Ythdendffngihbaa
