/- Rows are parted as they were joined, and what is parted is joined to the same bytes: the statement OctetsBack. No condition. -/
import Derived.Test.YthdendffngihbaaQ01
namespace Go.Proofs.Ythdendffngihbaa
open Go.RowKit Go.PBYthdendffngihbaa
set_option linter.unusedVariables false
set_option linter.unusedSimpArgs false
set_option maxRecDepth 10000

theorem octetsBack.part_len {b : List UInt8} {ls : List (List UInt8)} (h : partOf b = some ls) : ls.length ≤ b.length := by
  have e := join_part b.length b ls (Nat.le_refl _) h
  subst e
  clear h
  induction ls with
  | nil => simp
  | cons x r ih => simp [joinB, highB_length]; omega

set_option maxHeartbeats 1600000 in
theorem octetsBack.walk (w : World) (v0 : Value) (a : List (List UInt8)) (h0 : RsArg w v0 a) (v1 : Value) (b : List UInt8) (h1 : BsArg w v1 b) :
    Calls Try.prog 8 #[v0, v1] w fun e w' => e = .returned (.bool true) ∧ Kept [] w w' := by
  obtain ⟨ra, na, ba⟩ := rows_arg h0
  obtain ⟨A, c, rfl, hc, hc2, hA⟩ := h1
  clear h0
  have ba' := Lib.hid ba
  clear ba
  go_enter Try.func8, Try.ntmps8
  go_wp2_with (first | (with_reducible refine stop_box ?_) | (with_reducible refine stop_alloc ?_) | (with_reducible refine stop_load ?_) | (with_reducible refine stop_store ?_) | (with_reducible refine stop_make ?_) | (with_reducible refine stop_lit ?_) | (with_reducible refine stop_append ?_) | (with_reducible refine stop_copy ?_) | (with_reducible refine stop_map ?_) | (with_reducible refine stop_lookup ?_) | (with_reducible refine stop_update ?_) | (with_reducible refine stop_delete ?_) | (with_reducible refine stop_arr ?_) | (with_reducible refine stop_idx ?_) | (with_reducible refine stop_conv (e := 26) (f := 9) ?_) | ((with_reducible refine stopg_box ?hw ?_); case hw => rfl) | ((with_reducible refine stopg_alloc ?hw ?_); case hw => rfl) | ((with_reducible refine stopg_load ?hw ?_); case hw => rfl) | ((with_reducible refine stopg_store ?hw ?_); case hw => rfl) | ((with_reducible refine stopg_make ?hw ?_); case hw => rfl) | ((with_reducible refine stopg_lit ?hw ?_); case hw => rfl) | ((with_reducible refine stopg_append ?hw ?_); case hw => rfl) | ((with_reducible refine stopg_copy ?hw ?_); case hw => rfl) | ((with_reducible refine stopg_map ?hw ?_); case hw => rfl) | ((with_reducible refine stopg_lookup ?hw ?_); case hw => rfl) | ((with_reducible refine stopg_update ?hw ?_); case hw => rfl) | ((with_reducible refine stopg_delete ?hw ?_); case hw => rfl) | ((with_reducible refine stopg_arr ?hw ?_); case hw => rfl) | ((with_reducible refine stopg_conv (e := 26) (f := 9) ?hw ?_); case hw => rfl) | ((with_reducible refine stopg_idx ?hw ?_); case hw => rfl))
  refine (awake_calls w).mono ?_
  rintro e w1 ⟨rfl, k1⟩
  go_wp2_with (first | (with_reducible refine stop_box ?_) | (with_reducible refine stop_alloc ?_) | (with_reducible refine stop_load ?_) | (with_reducible refine stop_store ?_) | (with_reducible refine stop_make ?_) | (with_reducible refine stop_lit ?_) | (with_reducible refine stop_append ?_) | (with_reducible refine stop_copy ?_) | (with_reducible refine stop_map ?_) | (with_reducible refine stop_lookup ?_) | (with_reducible refine stop_update ?_) | (with_reducible refine stop_delete ?_) | (with_reducible refine stop_arr ?_) | (with_reducible refine stop_idx ?_) | (with_reducible refine stop_conv (e := 26) (f := 9) ?_) | ((with_reducible refine stopg_box ?hw ?_); case hw => rfl) | ((with_reducible refine stopg_alloc ?hw ?_); case hw => rfl) | ((with_reducible refine stopg_load ?hw ?_); case hw => rfl) | ((with_reducible refine stopg_store ?hw ?_); case hw => rfl) | ((with_reducible refine stopg_make ?hw ?_); case hw => rfl) | ((with_reducible refine stopg_lit ?hw ?_); case hw => rfl) | ((with_reducible refine stopg_append ?hw ?_); case hw => rfl) | ((with_reducible refine stopg_copy ?hw ?_); case hw => rfl) | ((with_reducible refine stopg_map ?hw ?_); case hw => rfl) | ((with_reducible refine stopg_lookup ?hw ?_); case hw => rfl) | ((with_reducible refine stopg_update ?hw ?_); case hw => rfl) | ((with_reducible refine stopg_delete ?hw ?_); case hw => rfl) | ((with_reducible refine stopg_arr ?hw ?_); case hw => rfl) | ((with_reducible refine stopg_conv (e := 26) (f := 9) ?hw ?_); case hw => rfl) | ((with_reducible refine stopg_idx ?hw ?_); case hw => rfl))
  refine (light_calls a v0 w1 (ra.keep k1) na ba'.out).mono ?_
  rintro e w2 ⟨rfl, k2⟩
  have k := k1.trans k2
  clear k1 k2
  cases la : lightB a with
  | false =>
    clear la
    go_wp2_with (first | (with_reducible refine stop_box ?_) | (with_reducible refine stop_alloc ?_) | (with_reducible refine stop_load ?_) | (with_reducible refine stop_store ?_) | (with_reducible refine stop_make ?_) | (with_reducible refine stop_lit ?_) | (with_reducible refine stop_append ?_) | (with_reducible refine stop_copy ?_) | (with_reducible refine stop_map ?_) | (with_reducible refine stop_lookup ?_) | (with_reducible refine stop_update ?_) | (with_reducible refine stop_delete ?_) | (with_reducible refine stop_arr ?_) | (with_reducible refine stop_idx ?_) | (with_reducible refine stop_conv (e := 26) (f := 9) ?_) | ((with_reducible refine stopg_box ?hw ?_); case hw => rfl) | ((with_reducible refine stopg_alloc ?hw ?_); case hw => rfl) | ((with_reducible refine stopg_load ?hw ?_); case hw => rfl) | ((with_reducible refine stopg_store ?hw ?_); case hw => rfl) | ((with_reducible refine stopg_make ?hw ?_); case hw => rfl) | ((with_reducible refine stopg_lit ?hw ?_); case hw => rfl) | ((with_reducible refine stopg_append ?hw ?_); case hw => rfl) | ((with_reducible refine stopg_copy ?hw ?_); case hw => rfl) | ((with_reducible refine stopg_map ?hw ?_); case hw => rfl) | ((with_reducible refine stopg_lookup ?hw ?_); case hw => rfl) | ((with_reducible refine stopg_update ?hw ?_); case hw => rfl) | ((with_reducible refine stopg_delete ?hw ?_); case hw => rfl) | ((with_reducible refine stopg_arr ?hw ?_); case hw => rfl) | ((with_reducible refine stopg_conv (e := 26) (f := 9) ?hw ?_); case hw => rfl) | ((with_reducible refine stopg_idx ?hw ?_); case hw => rfl))
    go_ret
    exact ⟨rfl, k⟩
  | true =>
    have ja := Lib.hid (light_join la)
    clear la
    by_cases hb : b.length ≤ 2000
    · have hb' : decide (2000 < (b.length : Int)) = false := by simp; omega
      go_wp2_with (first | (with_reducible refine stop_box ?_) | (with_reducible refine stop_alloc ?_) | (with_reducible refine stop_load ?_) | (with_reducible refine stop_store ?_) | (with_reducible refine stop_make ?_) | (with_reducible refine stop_lit ?_) | (with_reducible refine stop_append ?_) | (with_reducible refine stop_copy ?_) | (with_reducible refine stop_map ?_) | (with_reducible refine stop_lookup ?_) | (with_reducible refine stop_update ?_) | (with_reducible refine stop_delete ?_) | (with_reducible refine stop_arr ?_) | (with_reducible refine stop_idx ?_) | (with_reducible refine stop_conv (e := 26) (f := 9) ?_) | ((with_reducible refine stopg_box ?hw ?_); case hw => rfl) | ((with_reducible refine stopg_alloc ?hw ?_); case hw => rfl) | ((with_reducible refine stopg_load ?hw ?_); case hw => rfl) | ((with_reducible refine stopg_store ?hw ?_); case hw => rfl) | ((with_reducible refine stopg_make ?hw ?_); case hw => rfl) | ((with_reducible refine stopg_lit ?hw ?_); case hw => rfl) | ((with_reducible refine stopg_append ?hw ?_); case hw => rfl) | ((with_reducible refine stopg_copy ?hw ?_); case hw => rfl) | ((with_reducible refine stopg_map ?hw ?_); case hw => rfl) | ((with_reducible refine stopg_lookup ?hw ?_); case hw => rfl) | ((with_reducible refine stopg_update ?hw ?_); case hw => rfl) | ((with_reducible refine stopg_delete ?hw ?_); case hw => rfl) | ((with_reducible refine stopg_arr ?hw ?_); case hw => rfl) | ((with_reducible refine stopg_conv (e := 26) (f := 9) ?hw ?_); case hw => rfl) | ((with_reducible refine stopg_idx ?hw ?_); case hw => rfl))
      refine (join_calls a v0 w2 (ra.keep k) (by have := ja.out; omega) (by have := ja.out; omega)).mono ?_
      rintro e w3 ⟨v, rfl, H3⟩
      obtain ⟨B, d, rfl, hd, _, hB⟩ := (H3.get (k := 0) rfl).slice
      go_wp2_with (first | (with_reducible refine stop_box ?_) | (with_reducible refine stop_alloc ?_) | (with_reducible refine stop_load ?_) | (with_reducible refine stop_store ?_) | (with_reducible refine stop_make ?_) | (with_reducible refine stop_lit ?_) | (with_reducible refine stop_append ?_) | (with_reducible refine stop_copy ?_) | (with_reducible refine stop_map ?_) | (with_reducible refine stop_lookup ?_) | (with_reducible refine stop_update ?_) | (with_reducible refine stop_delete ?_) | (with_reducible refine stop_arr ?_) | (with_reducible refine stop_idx ?_) | (with_reducible refine stop_conv (e := 26) (f := 9) ?_) | ((with_reducible refine stopg_box ?hw ?_); case hw => rfl) | ((with_reducible refine stopg_alloc ?hw ?_); case hw => rfl) | ((with_reducible refine stopg_load ?hw ?_); case hw => rfl) | ((with_reducible refine stopg_store ?hw ?_); case hw => rfl) | ((with_reducible refine stopg_make ?hw ?_); case hw => rfl) | ((with_reducible refine stopg_lit ?hw ?_); case hw => rfl) | ((with_reducible refine stopg_append ?hw ?_); case hw => rfl) | ((with_reducible refine stopg_copy ?hw ?_); case hw => rfl) | ((with_reducible refine stopg_map ?hw ?_); case hw => rfl) | ((with_reducible refine stopg_lookup ?hw ?_); case hw => rfl) | ((with_reducible refine stopg_update ?hw ?_); case hw => rfl) | ((with_reducible refine stopg_delete ?hw ?_); case hw => rfl) | ((with_reducible refine stopg_arr ?hw ?_); case hw => rfl) | ((with_reducible refine stopg_conv (e := 26) (f := 9) ?hw ?_); case hw => rfl) | ((with_reducible refine stopg_idx ?hw ?_); case hw => rfl))
      refine (part_calls (joinB a) B d w3 hB hd (by have := ja.out; omega)).mono ?_
      rintro e w4 h4
      have h4' : ∃ (x : Value), e = .returned (.tuple #[x, .int .i64 0]) ∧ Kept [] w3 w4 ∧ RowsAt w4 x a := by
        have hp' := partOf_join a (by have := ja.out; exact this.2.2)
        rcases h4 with ⟨hp, rfl, hk⟩ | ⟨ms, v, vs, hp, rfl, hl, H⟩
        · rw [hp] at hp'; simp at hp'
        · rw [hp] at hp'
          obtain rfl := Option.some.inj hp'
          exact ⟨_, rfl, H.kept, rows_inner hl H⟩
      clear h4
      obtain ⟨x, rfl, k4, rx⟩ := h4'
      have k5 := (k.trans H3.kept).trans k4
      clear k k4 H3
      go_wp2_with (first | (with_reducible refine stop_box ?_) | (with_reducible refine stop_alloc ?_) | (with_reducible refine stop_load ?_) | (with_reducible refine stop_store ?_) | (with_reducible refine stop_make ?_) | (with_reducible refine stop_lit ?_) | (with_reducible refine stop_append ?_) | (with_reducible refine stop_copy ?_) | (with_reducible refine stop_map ?_) | (with_reducible refine stop_lookup ?_) | (with_reducible refine stop_update ?_) | (with_reducible refine stop_delete ?_) | (with_reducible refine stop_arr ?_) | (with_reducible refine stop_idx ?_) | (with_reducible refine stop_conv (e := 26) (f := 9) ?_) | ((with_reducible refine stopg_box ?hw ?_); case hw => rfl) | ((with_reducible refine stopg_alloc ?hw ?_); case hw => rfl) | ((with_reducible refine stopg_load ?hw ?_); case hw => rfl) | ((with_reducible refine stopg_store ?hw ?_); case hw => rfl) | ((with_reducible refine stopg_make ?hw ?_); case hw => rfl) | ((with_reducible refine stopg_lit ?hw ?_); case hw => rfl) | ((with_reducible refine stopg_append ?hw ?_); case hw => rfl) | ((with_reducible refine stopg_copy ?hw ?_); case hw => rfl) | ((with_reducible refine stopg_map ?hw ?_); case hw => rfl) | ((with_reducible refine stopg_lookup ?hw ?_); case hw => rfl) | ((with_reducible refine stopg_update ?hw ?_); case hw => rfl) | ((with_reducible refine stopg_delete ?hw ?_); case hw => rfl) | ((with_reducible refine stopg_arr ?hw ?_); case hw => rfl) | ((with_reducible refine stopg_conv (e := 26) (f := 9) ?hw ?_); case hw => rfl) | ((with_reducible refine stopg_idx ?hw ?_); case hw => rfl))
      refine (sameRows_calls a a x v0 w4 rx (ra.keep k5) (by have := ja.out; omega) (by have := ja.out; omega)).mono ?_
      rintro e w5 ⟨rfl, k6⟩
      rw [decide_eq_true rfl]
      have k := k5.trans k6
      clear k5 k6
      go_wp2_with (first | (with_reducible refine stop_box ?_) | (with_reducible refine stop_alloc ?_) | (with_reducible refine stop_load ?_) | (with_reducible refine stop_store ?_) | (with_reducible refine stop_make ?_) | (with_reducible refine stop_lit ?_) | (with_reducible refine stop_append ?_) | (with_reducible refine stop_copy ?_) | (with_reducible refine stop_map ?_) | (with_reducible refine stop_lookup ?_) | (with_reducible refine stop_update ?_) | (with_reducible refine stop_delete ?_) | (with_reducible refine stop_arr ?_) | (with_reducible refine stop_idx ?_) | (with_reducible refine stop_conv (e := 26) (f := 9) ?_) | ((with_reducible refine stopg_box ?hw ?_); case hw => rfl) | ((with_reducible refine stopg_alloc ?hw ?_); case hw => rfl) | ((with_reducible refine stopg_load ?hw ?_); case hw => rfl) | ((with_reducible refine stopg_store ?hw ?_); case hw => rfl) | ((with_reducible refine stopg_make ?hw ?_); case hw => rfl) | ((with_reducible refine stopg_lit ?hw ?_); case hw => rfl) | ((with_reducible refine stopg_append ?hw ?_); case hw => rfl) | ((with_reducible refine stopg_copy ?hw ?_); case hw => rfl) | ((with_reducible refine stopg_map ?hw ?_); case hw => rfl) | ((with_reducible refine stopg_lookup ?hw ?_); case hw => rfl) | ((with_reducible refine stopg_update ?hw ?_); case hw => rfl) | ((with_reducible refine stopg_delete ?hw ?_); case hw => rfl) | ((with_reducible refine stopg_arr ?hw ?_); case hw => rfl) | ((with_reducible refine stopg_conv (e := 26) (f := 9) ?hw ?_); case hw => rfl) | ((with_reducible refine stopg_idx ?hw ?_); case hw => rfl))
      refine (part_calls b A c w5 (hA.keep k) hc (by omega)).mono ?_
      rintro e w6 h3
      by_cases hp0 : partOf b = none
      · have h3' : ∃ (y : Value), e = .returned (.tuple #[y, .int .i64 3]) ∧ Kept [] w5 w6 := by
          rcases h3 with ⟨hp, rfl, hk⟩ | ⟨ls, v, vs, hp, rfl, hl, H⟩
          · exact ⟨_, rfl, hk⟩
          · rw [hp] at hp0; simp at hp0
        clear h3 hp0
        obtain ⟨y, rfl, k7⟩ := h3'
        have k8 := k.trans k7
        clear k k7
        go_wp2_with (first | (with_reducible refine stop_box ?_) | (with_reducible refine stop_alloc ?_) | (with_reducible refine stop_load ?_) | (with_reducible refine stop_store ?_) | (with_reducible refine stop_make ?_) | (with_reducible refine stop_lit ?_) | (with_reducible refine stop_append ?_) | (with_reducible refine stop_copy ?_) | (with_reducible refine stop_map ?_) | (with_reducible refine stop_lookup ?_) | (with_reducible refine stop_update ?_) | (with_reducible refine stop_delete ?_) | (with_reducible refine stop_arr ?_) | (with_reducible refine stop_idx ?_) | (with_reducible refine stop_conv (e := 26) (f := 9) ?_) | ((with_reducible refine stopg_box ?hw ?_); case hw => rfl) | ((with_reducible refine stopg_alloc ?hw ?_); case hw => rfl) | ((with_reducible refine stopg_load ?hw ?_); case hw => rfl) | ((with_reducible refine stopg_store ?hw ?_); case hw => rfl) | ((with_reducible refine stopg_make ?hw ?_); case hw => rfl) | ((with_reducible refine stopg_lit ?hw ?_); case hw => rfl) | ((with_reducible refine stopg_append ?hw ?_); case hw => rfl) | ((with_reducible refine stopg_copy ?hw ?_); case hw => rfl) | ((with_reducible refine stopg_map ?hw ?_); case hw => rfl) | ((with_reducible refine stopg_lookup ?hw ?_); case hw => rfl) | ((with_reducible refine stopg_update ?hw ?_); case hw => rfl) | ((with_reducible refine stopg_delete ?hw ?_); case hw => rfl) | ((with_reducible refine stopg_arr ?hw ?_); case hw => rfl) | ((with_reducible refine stopg_conv (e := 26) (f := 9) ?hw ?_); case hw => rfl) | ((with_reducible refine stopg_idx ?hw ?_); case hw => rfl))
        refine wp_region_all (n := 57) (fun w' => Kept [] w w') (regF [fun v _ => v = .bool true, fun v _ => v = .bool true, fun v _ => v = .int .i64 0, fun v _ => v = .bool true, fun v _ => v = .bool true, fun v _ => v = .bool true, fun v _ => v = .bool true, fun v _ => v = .bool true, fun v _ => v = .bool true, fun v _ => v = .int .i64 3, fun v _ => v = .bool true, fun v _ => v = .bool true, fun v _ => v = undef, fun v _ => v = undef, fun v _ => v = undef, fun v _ => v = undef, fun v _ => v = undef, fun v _ => v = undef, fun v _ => v = (Value.bool true), fun v _ => v = (Value.bool true), fun v _ => v = (Value.bool true)]) [[], [(37, 0)], [(38, 1)], [(39, 2), (38, 1)], [(38, 1), (40, 3)], [(41, 4), (38, 1)], [(42, 5)], [(42, 5), (43, 6)], [(44, 7), (42, 5)], [(45, 8)], [(46, 9), (45, 8)], [(47, 10), (45, 8)], [(48, 11)], [(49, 12), (48, 11)], [(50, 13), (48, 11)], [(48, 11)], [(52, 15), (48, 11)], [(51, 14), (53, 16), (48, 11)], [(48, 11), (54, 17), (45, 8)], [(45, 8), (55, 18)], [(56, 19), (50, 13), (37, 0), (38, 1), (39, 2), (40, 3), (41, 4), (42, 5), (43, 6), (44, 7), (45, 8), (46, 9), (47, 10), (48, 11), (49, 12), (51, 14), (52, 15), (53, 16), (54, 17), (55, 18)]] [(37, 0), (38, 1), (39, 2), (40, 3), (41, 4), (42, 5), (43, 6), (44, 7), (45, 8), (46, 9), (47, 10), (48, 11), (49, 12), (50, 13), (51, 14), (52, 15), (53, 16), (54, 17), (55, 18), (56, 19), (4, 20)] (by kernel_rfl) (by kernel_rfl) rfl k8.drew (regF_stable ⟨Stable.eq _, Stable.eq _, Stable.eq _, Stable.eq _, Stable.eq _, Stable.eq _, Stable.eq _, Stable.eq _, Stable.eq _, Stable.eq _, Stable.eq _, Stable.eq _, Stable.eq _, Stable.eq _, Stable.eq _, Stable.eq _, Stable.eq _, Stable.eq _, Stable.eq _, Stable.eq _, Stable.eq _, trivial⟩) ⟨?_, ?_, ?_, ?_, ?_, ?_, ?_, ?_, ?_, ?_, ?_, ?_, ?_, ?_, ?_, ?_, ?_, ?_, ?_, ?_, ?_, trivial⟩ ?_
        · intro vx w9 hC hF
          clear hF
          refine .inl ⟨trivial, ?_⟩
          simp only [putsOf]
          exact opw_val (v := .bool true) (w' := w9) (by go_simp <;> (simp only [IntKind.wrap_u64, IntKind.wrap_i64] <;> omega)) ⟨_, rfl, by simp, hC, (Kept.refl _ _), rfl⟩
        · intro vx w9 hC hF
          have q0 : (vx 0) = .bool true := hF (37, 0) (by simp)
          clear hF
          refine .inl ⟨trivial, ?_⟩
          simp only [putsOf, q0]
          exact opw_val (v := .bool true) (w' := w9) (by go_simp <;> (simp only [IntKind.wrap_u64, IntKind.wrap_i64] <;> omega)) ⟨_, rfl, by simp, hC, (Kept.refl _ _), rfl⟩
        · intro vx w9 hC hF
          have q1 : (vx 1) = .bool true := hF (38, 1) (by simp)
          clear hF
          refine .inl ⟨⟨q1, rfl⟩, ?_⟩
          simp only [putsOf, q1]
          exact opw_val (v := .int .i64 0) (w' := w9) (by go_simp <;> (simp only [IntKind.wrap_u64, IntKind.wrap_i64] <;> omega)) ⟨_, rfl, by simp, hC, (Kept.refl _ _), rfl⟩
        · intro vx w9 hC hF
          have q2 : (vx 2) = .int .i64 0 := hF (39, 2) (by simp)
          have q1 : (vx 1) = .bool true := hF (38, 1) (by simp)
          clear hF
          refine .inl ⟨⟨q1, rfl⟩, ?_⟩
          simp only [putsOf, q2, q1]
          exact opw_val (v := .bool true) (w' := w9) (by go_simp <;> (simp only [IntKind.wrap_u64, IntKind.wrap_i64] <;> omega)) ⟨_, rfl, by simp, hC, (Kept.refl _ _), rfl⟩
        · intro vx w9 hC hF
          have q1 : (vx 1) = .bool true := hF (38, 1) (by simp)
          have q3 : (vx 3) = .bool true := hF (40, 3) (by simp)
          clear hF
          refine .inl ⟨trivial, ?_⟩
          simp only [putsOf, q1, q3]
          exact opw_val (v := .bool true) (w' := w9) (by go_simp <;> (simp only [IntKind.wrap_u64, IntKind.wrap_i64] <;> omega)) ⟨_, rfl, by simp, hC, (Kept.refl _ _), rfl⟩
        · intro vx w9 hC hF
          have q4 : (vx 4) = .bool true := hF (41, 4) (by simp)
          have q1 : (vx 1) = .bool true := hF (38, 1) (by simp)
          clear hF
          refine .inl ⟨trivial, ?_⟩
          simp only [putsOf, q4, q1]
          exact opw_val (v := .bool true) (w' := w9) (by go_simp <;> (simp only [IntKind.wrap_u64, IntKind.wrap_i64] <;> omega)) ⟨_, rfl, by simp, hC, (Kept.refl _ _), rfl⟩
        · intro vx w9 hC hF
          have q5 : (vx 5) = .bool true := hF (42, 5) (by simp)
          clear hF
          refine .inl ⟨⟨q5, rfl⟩, ?_⟩
          simp only [putsOf, q5]
          exact opw_val (v := .bool true) (w' := w9) (by go_simp <;> (simp only [IntKind.wrap_u64, IntKind.wrap_i64] <;> omega)) ⟨_, rfl, by simp, hC, (Kept.refl _ _), rfl⟩
        · intro vx w9 hC hF
          have q5 : (vx 5) = .bool true := hF (42, 5) (by simp)
          have q6 : (vx 6) = .bool true := hF (43, 6) (by simp)
          clear hF
          refine .inl ⟨trivial, ?_⟩
          simp only [putsOf, q5, q6]
          exact opw_val (v := .bool true) (w' := w9) (by go_simp <;> (simp only [IntKind.wrap_u64, IntKind.wrap_i64] <;> omega)) ⟨_, rfl, by simp, hC, (Kept.refl _ _), rfl⟩
        · intro vx w9 hC hF
          have q7 : (vx 7) = .bool true := hF (44, 7) (by simp)
          have q5 : (vx 5) = .bool true := hF (42, 5) (by simp)
          clear hF
          refine .inl ⟨trivial, ?_⟩
          simp only [putsOf, q7, q5]
          exact opw_val (v := .bool true) (w' := w9) (by go_simp <;> (simp only [IntKind.wrap_u64, IntKind.wrap_i64] <;> omega)) ⟨_, rfl, by simp, hC, (Kept.refl _ _), rfl⟩
        · intro vx w9 hC hF
          have q8 : (vx 8) = .bool true := hF (45, 8) (by simp)
          clear hF
          refine .inl ⟨⟨q8, rfl⟩, ?_⟩
          simp only [putsOf, q8]
          exact opw_val (v := .int .i64 3) (w' := w9) (by go_simp <;> (simp only [IntKind.wrap_u64, IntKind.wrap_i64] <;> omega)) ⟨_, rfl, by simp, hC, (Kept.refl _ _), rfl⟩
        · intro vx w9 hC hF
          have q9 : (vx 9) = .int .i64 3 := hF (46, 9) (by simp)
          have q8 : (vx 8) = .bool true := hF (45, 8) (by simp)
          clear hF
          refine .inl ⟨⟨q8, rfl⟩, ?_⟩
          simp only [putsOf, q9, q8]
          exact opw_val (v := .bool true) (w' := w9) (by go_simp <;> (simp only [IntKind.wrap_u64, IntKind.wrap_i64] <;> omega)) ⟨_, rfl, by simp, hC, (Kept.refl _ _), rfl⟩
        · intro vx w9 hC hF
          have q10 : (vx 10) = .bool true := hF (47, 10) (by simp)
          have q8 : (vx 8) = .bool true := hF (45, 8) (by simp)
          clear hF
          refine .inl ⟨⟨q8, rfl⟩, ?_⟩
          simp only [putsOf, q10, q8]
          exact opw_val (v := .bool true) (w' := w9) (by go_simp <;> (simp only [IntKind.wrap_u64, IntKind.wrap_i64] <;> omega)) ⟨_, rfl, by simp, hC, (Kept.refl _ _), rfl⟩
        · intro vx w9 hC hF
          have q11 : (vx 11) = .bool true := hF (48, 11) (by simp)
          clear hF
          refine .inr ⟨⟨by rw [q11]; simp [undef], rfl⟩, rfl⟩
        · intro vx w9 hC hF
          have q12 : (vx 12) = undef := hF (49, 12) (by simp)
          have q11 : (vx 11) = .bool true := hF (48, 11) (by simp)
          clear hF
          refine .inr ⟨⟨by rw [q11]; simp [undef], rfl⟩, rfl⟩
        · intro vx w9 hC hF
          have q13 : (vx 13) = undef := hF (50, 13) (by simp)
          have q11 : (vx 11) = .bool true := hF (48, 11) (by simp)
          clear hF
          refine .inr ⟨⟨by rw [q11]; simp [undef], rfl⟩, rfl⟩
        · intro vx w9 hC hF
          have q11 : (vx 11) = .bool true := hF (48, 11) (by simp)
          clear hF
          refine .inr ⟨⟨by rw [q11]; simp [undef], rfl⟩, rfl⟩
        · intro vx w9 hC hF
          have q15 : (vx 15) = undef := hF (52, 15) (by simp)
          have q11 : (vx 11) = .bool true := hF (48, 11) (by simp)
          clear hF
          refine .inr ⟨⟨by rw [q11]; simp [undef], rfl⟩, rfl⟩
        · intro vx w9 hC hF
          have q14 : (vx 14) = undef := hF (51, 14) (by simp)
          have q16 : (vx 16) = undef := hF (53, 16) (by simp)
          have q11 : (vx 11) = .bool true := hF (48, 11) (by simp)
          clear hF
          refine .inr ⟨⟨by rw [q11]; simp [undef], rfl⟩, rfl⟩
        · intro vx w9 hC hF
          have q11 : (vx 11) = .bool true := hF (48, 11) (by simp)
          have q17 : (vx 17) = undef := hF (54, 17) (by simp)
          have q8 : (vx 8) = .bool true := hF (45, 8) (by simp)
          clear hF
          refine .inl ⟨⟨q8, rfl⟩, ?_⟩
          simp only [putsOf, q11, q17, q8]
          exact opw_val (v := (Value.bool true)) (w' := w9) (by go_simp <;> (simp only [IntKind.wrap_u64, IntKind.wrap_i64] <;> omega)) ⟨_, rfl, by simp, hC, (Kept.refl _ _), rfl⟩
        · intro vx w9 hC hF
          have q8 : (vx 8) = .bool true := hF (45, 8) (by simp)
          have q18 : (vx 18) = (Value.bool true) := hF (55, 18) (by simp)
          clear hF
          refine .inl ⟨trivial, ?_⟩
          simp only [putsOf, q8, q18]
          exact opw_val (v := (Value.bool true)) (w' := w9) (by go_simp <;> (simp only [IntKind.wrap_u64, IntKind.wrap_i64] <;> omega)) ⟨_, rfl, by simp, hC, (Kept.refl _ _), rfl⟩
        · intro vx w9 hC hF
          have q19 : (vx 19) = (Value.bool true) := hF (56, 19) (by simp)
          have q13 : (vx 13) = undef := hF (50, 13) (by simp)
          have q0 : (vx 0) = .bool true := hF (37, 0) (by simp)
          have q1 : (vx 1) = .bool true := hF (38, 1) (by simp)
          have q2 : (vx 2) = .int .i64 0 := hF (39, 2) (by simp)
          have q3 : (vx 3) = .bool true := hF (40, 3) (by simp)
          have q4 : (vx 4) = .bool true := hF (41, 4) (by simp)
          have q5 : (vx 5) = .bool true := hF (42, 5) (by simp)
          have q6 : (vx 6) = .bool true := hF (43, 6) (by simp)
          have q7 : (vx 7) = .bool true := hF (44, 7) (by simp)
          have q8 : (vx 8) = .bool true := hF (45, 8) (by simp)
          have q9 : (vx 9) = .int .i64 3 := hF (46, 9) (by simp)
          have q10 : (vx 10) = .bool true := hF (47, 10) (by simp)
          have q11 : (vx 11) = .bool true := hF (48, 11) (by simp)
          have q12 : (vx 12) = undef := hF (49, 12) (by simp)
          have q14 : (vx 14) = undef := hF (51, 14) (by simp)
          have q15 : (vx 15) = undef := hF (52, 15) (by simp)
          have q16 : (vx 16) = undef := hF (53, 16) (by simp)
          have q17 : (vx 17) = undef := hF (54, 17) (by simp)
          have q18 : (vx 18) = (Value.bool true) := hF (55, 18) (by simp)
          clear hF
          refine .inl ⟨trivial, ?_⟩
          simp only [putsOf, q19, q13, q0, q1, q2, q3, q4, q5, q6, q7, q8, q9, q10, q11, q12, q14, q15, q16, q17, q18]
          exact opw_val (v := (Value.bool true)) (w' := w9) (by go_simp <;> (simp only [IntKind.wrap_u64, IntKind.wrap_i64] <;> omega)) ⟨_, rfl, by simp, hC, (Kept.refl _ _), rfl⟩
        intro vx w9 hC hF
        have q0 : (vx 0) = .bool true := hF 0 (by simp)
        have q1 : (vx 1) = .bool true := hF 1 (by simp)
        have q2 : (vx 2) = .int .i64 0 := hF 2 (by simp)
        have q3 : (vx 3) = .bool true := hF 3 (by simp)
        have q4 : (vx 4) = .bool true := hF 4 (by simp)
        have q5 : (vx 5) = .bool true := hF 5 (by simp)
        have q6 : (vx 6) = .bool true := hF 6 (by simp)
        have q7 : (vx 7) = .bool true := hF 7 (by simp)
        have q8 : (vx 8) = .bool true := hF 8 (by simp)
        have q9 : (vx 9) = .int .i64 3 := hF 9 (by simp)
        have q10 : (vx 10) = .bool true := hF 10 (by simp)
        have q11 : (vx 11) = .bool true := hF 11 (by simp)
        have q12 : (vx 12) = undef := hF 12 (by simp)
        have q13 : (vx 13) = undef := hF 13 (by simp)
        have q14 : (vx 14) = undef := hF 14 (by simp)
        have q15 : (vx 15) = undef := hF 15 (by simp)
        have q16 : (vx 16) = undef := hF 16 (by simp)
        have q17 : (vx 17) = undef := hF 17 (by simp)
        have q18 : (vx 18) = (Value.bool true) := hF 18 (by simp)
        have q19 : (vx 19) = (Value.bool true) := hF 19 (by simp)
        have q20 : (vx 20) = (Value.bool true) := hF 20 (by simp)
        clear hF
        simp only [putsOf, q0, q1, q2, q3, q4, q5, q6, q7, q8, q9, q10, q11, q12, q13, q14, q15, q16, q17, q18, q19, q20]
        simp only [Act.put, List.setIfInBounds_toArray, List.set_cons_succ, List.set_cons_zero]
        clear q0 q1 q2 q3 q4 q5 q6 q7 q8 q9 q10 q11 q12 q13 q14 q15 q16 q17 q18 q19 q20
        go_wp2_with (first | (with_reducible refine stop_box ?_) | (with_reducible refine stop_alloc ?_) | (with_reducible refine stop_load ?_) | (with_reducible refine stop_store ?_) | (with_reducible refine stop_make ?_) | (with_reducible refine stop_lit ?_) | (with_reducible refine stop_append ?_) | (with_reducible refine stop_copy ?_) | (with_reducible refine stop_map ?_) | (with_reducible refine stop_lookup ?_) | (with_reducible refine stop_update ?_) | (with_reducible refine stop_delete ?_) | (with_reducible refine stop_arr ?_) | (with_reducible refine stop_idx ?_) | (with_reducible refine stop_conv (e := 26) (f := 9) ?_) | ((with_reducible refine stopg_box ?hw ?_); case hw => rfl) | ((with_reducible refine stopg_alloc ?hw ?_); case hw => rfl) | ((with_reducible refine stopg_load ?hw ?_); case hw => rfl) | ((with_reducible refine stopg_store ?hw ?_); case hw => rfl) | ((with_reducible refine stopg_make ?hw ?_); case hw => rfl) | ((with_reducible refine stopg_lit ?hw ?_); case hw => rfl) | ((with_reducible refine stopg_append ?hw ?_); case hw => rfl) | ((with_reducible refine stopg_copy ?hw ?_); case hw => rfl) | ((with_reducible refine stopg_map ?hw ?_); case hw => rfl) | ((with_reducible refine stopg_lookup ?hw ?_); case hw => rfl) | ((with_reducible refine stopg_update ?hw ?_); case hw => rfl) | ((with_reducible refine stopg_delete ?hw ?_); case hw => rfl) | ((with_reducible refine stopg_arr ?hw ?_); case hw => rfl) | ((with_reducible refine stopg_conv (e := 26) (f := 9) ?hw ?_); case hw => rfl) | ((with_reducible refine stopg_idx ?hw ?_); case hw => rfl))
        go_ret
        exact ⟨rfl, hC⟩
      · have h3' : ∃ (y : Value) (ls : List (List UInt8)), e = .returned (.tuple #[y, .int .i64 0]) ∧ Kept [] w5 w6 ∧ RowsAt w6 y ls ∧ ls.length ≤ 2000 ∧ Hid (joinB ls = b) := by
          rcases h3 with ⟨hp, rfl, hk⟩ | ⟨ls, v, vs, hp, rfl, hl, H⟩
          · exact absurd hp hp0
          · exact ⟨_, ls, rfl, H.kept, rows_inner hl H, by have := octetsBack.part_len hp; omega, join_part b.length b ls (Nat.le_refl _) hp⟩
        clear h3 hp0
        obtain ⟨y, ls, rfl, k7, ry, ny, hy⟩ := h3'
        have k8 := k.trans k7
        clear k
        go_wp2_with (first | (with_reducible refine stop_box ?_) | (with_reducible refine stop_alloc ?_) | (with_reducible refine stop_load ?_) | (with_reducible refine stop_store ?_) | (with_reducible refine stop_make ?_) | (with_reducible refine stop_lit ?_) | (with_reducible refine stop_append ?_) | (with_reducible refine stop_copy ?_) | (with_reducible refine stop_map ?_) | (with_reducible refine stop_lookup ?_) | (with_reducible refine stop_update ?_) | (with_reducible refine stop_delete ?_) | (with_reducible refine stop_arr ?_) | (with_reducible refine stop_idx ?_) | (with_reducible refine stop_conv (e := 26) (f := 9) ?_) | ((with_reducible refine stopg_box ?hw ?_); case hw => rfl) | ((with_reducible refine stopg_alloc ?hw ?_); case hw => rfl) | ((with_reducible refine stopg_load ?hw ?_); case hw => rfl) | ((with_reducible refine stopg_store ?hw ?_); case hw => rfl) | ((with_reducible refine stopg_make ?hw ?_); case hw => rfl) | ((with_reducible refine stopg_lit ?hw ?_); case hw => rfl) | ((with_reducible refine stopg_append ?hw ?_); case hw => rfl) | ((with_reducible refine stopg_copy ?hw ?_); case hw => rfl) | ((with_reducible refine stopg_map ?hw ?_); case hw => rfl) | ((with_reducible refine stopg_lookup ?hw ?_); case hw => rfl) | ((with_reducible refine stopg_update ?hw ?_); case hw => rfl) | ((with_reducible refine stopg_delete ?hw ?_); case hw => rfl) | ((with_reducible refine stopg_arr ?hw ?_); case hw => rfl) | ((with_reducible refine stopg_conv (e := 26) (f := 9) ?hw ?_); case hw => rfl) | ((with_reducible refine stopg_idx ?hw ?_); case hw => rfl))
        refine wp_region_all (n := 57) (fun w' => Kept [] w w' ∧ Kept [] w6 w') (regF [fun v _ => v = .bool true, fun v _ => v = .bool true, fun v _ => v = .int .i64 0, fun v _ => v = .bool true, fun v _ => v = .bool true, fun v _ => v = .bool true, fun v _ => v = .bool true, fun v _ => v = .bool true, fun v _ => v = .bool true, fun v _ => v = .int .i64 0, fun v _ => v = .bool false, fun v _ => v = .bool false, fun v _ => v = y, fun v w' => BsAt w' v b, fun v _ => v = .string ⟨(b).toArray⟩, fun v _ => v = .slice A b.length c, fun v _ => v = .string ⟨(b).toArray⟩, fun v _ => v = .bool true, fun v _ => v = .bool true, fun v _ => v = .bool true, fun v _ => v = .bool true]) [[], [(37, 0)], [(38, 1)], [(39, 2), (38, 1)], [(38, 1), (40, 3)], [(41, 4), (38, 1)], [(42, 5)], [(42, 5), (43, 6)], [(44, 7), (42, 5)], [(45, 8)], [(46, 9), (45, 8)], [(47, 10), (45, 8)], [(48, 11)], [(49, 12), (48, 11)], [(50, 13), (48, 11)], [(48, 11)], [(52, 15), (48, 11)], [(51, 14), (53, 16), (48, 11)], [(48, 11), (54, 17), (45, 8)], [(45, 8), (55, 18)], [(56, 19), (50, 13), (37, 0), (38, 1), (39, 2), (40, 3), (41, 4), (42, 5), (43, 6), (44, 7), (45, 8), (46, 9), (47, 10), (48, 11), (49, 12), (51, 14), (52, 15), (53, 16), (54, 17), (55, 18)]] [(37, 0), (38, 1), (39, 2), (40, 3), (41, 4), (42, 5), (43, 6), (44, 7), (45, 8), (46, 9), (47, 10), (48, 11), (49, 12), (50, 13), (51, 14), (52, 15), (53, 16), (54, 17), (55, 18), (56, 19), (4, 20)] (by kernel_rfl) (by kernel_rfl) rfl ⟨k8.drew, (Kept.refl _ _).drew⟩ (regF_stable ⟨Stable.eq _, Stable.eq _, Stable.eq _, Stable.eq _, Stable.eq _, Stable.eq _, Stable.eq _, Stable.eq _, Stable.eq _, Stable.eq _, Stable.eq _, Stable.eq _, Stable.eq _, (fun _ _ hK _ h => BsAt.keep h hK), Stable.eq _, Stable.eq _, Stable.eq _, Stable.eq _, Stable.eq _, Stable.eq _, Stable.eq _, trivial⟩) ⟨?_, ?_, ?_, ?_, ?_, ?_, ?_, ?_, ?_, ?_, ?_, ?_, ?_, ?_, ?_, ?_, ?_, ?_, ?_, ?_, ?_, trivial⟩ ?_
        · intro vx w9 hC hF
          clear hF
          refine .inl ⟨trivial, ?_⟩
          simp only [putsOf]
          exact opw_val (v := .bool true) (w' := w9) (by go_simp <;> (simp only [IntKind.wrap_u64, IntKind.wrap_i64] <;> omega)) ⟨_, rfl, by simp, hC, (Kept.refl _ _), rfl⟩
        · intro vx w9 hC hF
          have q0 : (vx 0) = .bool true := hF (37, 0) (by simp)
          clear hF
          refine .inl ⟨trivial, ?_⟩
          simp only [putsOf, q0]
          exact opw_val (v := .bool true) (w' := w9) (by go_simp <;> (simp only [IntKind.wrap_u64, IntKind.wrap_i64] <;> omega)) ⟨_, rfl, by simp, hC, (Kept.refl _ _), rfl⟩
        · intro vx w9 hC hF
          have q1 : (vx 1) = .bool true := hF (38, 1) (by simp)
          clear hF
          refine .inl ⟨⟨q1, rfl⟩, ?_⟩
          simp only [putsOf, q1]
          exact opw_val (v := .int .i64 0) (w' := w9) (by go_simp <;> (simp only [IntKind.wrap_u64, IntKind.wrap_i64] <;> omega)) ⟨_, rfl, by simp, hC, (Kept.refl _ _), rfl⟩
        · intro vx w9 hC hF
          have q2 : (vx 2) = .int .i64 0 := hF (39, 2) (by simp)
          have q1 : (vx 1) = .bool true := hF (38, 1) (by simp)
          clear hF
          refine .inl ⟨⟨q1, rfl⟩, ?_⟩
          simp only [putsOf, q2, q1]
          exact opw_val (v := .bool true) (w' := w9) (by go_simp <;> (simp only [IntKind.wrap_u64, IntKind.wrap_i64] <;> omega)) ⟨_, rfl, by simp, hC, (Kept.refl _ _), rfl⟩
        · intro vx w9 hC hF
          have q1 : (vx 1) = .bool true := hF (38, 1) (by simp)
          have q3 : (vx 3) = .bool true := hF (40, 3) (by simp)
          clear hF
          refine .inl ⟨trivial, ?_⟩
          simp only [putsOf, q1, q3]
          exact opw_val (v := .bool true) (w' := w9) (by go_simp <;> (simp only [IntKind.wrap_u64, IntKind.wrap_i64] <;> omega)) ⟨_, rfl, by simp, hC, (Kept.refl _ _), rfl⟩
        · intro vx w9 hC hF
          have q4 : (vx 4) = .bool true := hF (41, 4) (by simp)
          have q1 : (vx 1) = .bool true := hF (38, 1) (by simp)
          clear hF
          refine .inl ⟨trivial, ?_⟩
          simp only [putsOf, q4, q1]
          exact opw_val (v := .bool true) (w' := w9) (by go_simp <;> (simp only [IntKind.wrap_u64, IntKind.wrap_i64] <;> omega)) ⟨_, rfl, by simp, hC, (Kept.refl _ _), rfl⟩
        · intro vx w9 hC hF
          have q5 : (vx 5) = .bool true := hF (42, 5) (by simp)
          clear hF
          refine .inl ⟨⟨q5, rfl⟩, ?_⟩
          simp only [putsOf, q5]
          exact opw_val (v := .bool true) (w' := w9) (by go_simp <;> (simp only [IntKind.wrap_u64, IntKind.wrap_i64] <;> omega)) ⟨_, rfl, by simp, hC, (Kept.refl _ _), rfl⟩
        · intro vx w9 hC hF
          have q5 : (vx 5) = .bool true := hF (42, 5) (by simp)
          have q6 : (vx 6) = .bool true := hF (43, 6) (by simp)
          clear hF
          refine .inl ⟨trivial, ?_⟩
          simp only [putsOf, q5, q6]
          exact opw_val (v := .bool true) (w' := w9) (by go_simp <;> (simp only [IntKind.wrap_u64, IntKind.wrap_i64] <;> omega)) ⟨_, rfl, by simp, hC, (Kept.refl _ _), rfl⟩
        · intro vx w9 hC hF
          have q7 : (vx 7) = .bool true := hF (44, 7) (by simp)
          have q5 : (vx 5) = .bool true := hF (42, 5) (by simp)
          clear hF
          refine .inl ⟨trivial, ?_⟩
          simp only [putsOf, q7, q5]
          exact opw_val (v := .bool true) (w' := w9) (by go_simp <;> (simp only [IntKind.wrap_u64, IntKind.wrap_i64] <;> omega)) ⟨_, rfl, by simp, hC, (Kept.refl _ _), rfl⟩
        · intro vx w9 hC hF
          have q8 : (vx 8) = .bool true := hF (45, 8) (by simp)
          clear hF
          refine .inl ⟨⟨q8, rfl⟩, ?_⟩
          simp only [putsOf, q8]
          exact opw_val (v := .int .i64 0) (w' := w9) (by go_simp <;> (simp only [IntKind.wrap_u64, IntKind.wrap_i64] <;> omega)) ⟨_, rfl, by simp, hC, (Kept.refl _ _), rfl⟩
        · intro vx w9 hC hF
          have q9 : (vx 9) = .int .i64 0 := hF (46, 9) (by simp)
          have q8 : (vx 8) = .bool true := hF (45, 8) (by simp)
          clear hF
          refine .inl ⟨⟨q8, rfl⟩, ?_⟩
          simp only [putsOf, q9, q8]
          exact opw_val (v := .bool false) (w' := w9) (by go_simp <;> (simp only [IntKind.wrap_u64, IntKind.wrap_i64] <;> omega)) ⟨_, rfl, by simp, hC, (Kept.refl _ _), rfl⟩
        · intro vx w9 hC hF
          have q10 : (vx 10) = .bool false := hF (47, 10) (by simp)
          have q8 : (vx 8) = .bool true := hF (45, 8) (by simp)
          clear hF
          refine .inl ⟨⟨q8, rfl⟩, ?_⟩
          simp only [putsOf, q10, q8]
          exact opw_val (v := .bool false) (w' := w9) (by go_simp <;> (simp only [IntKind.wrap_u64, IntKind.wrap_i64] <;> omega)) ⟨_, rfl, by simp, hC, (Kept.refl _ _), rfl⟩
        · intro vx w9 hC hF
          have q11 : (vx 11) = .bool false := hF (48, 11) (by simp)
          clear hF
          refine .inl ⟨⟨q11, rfl⟩, ?_⟩
          simp only [putsOf, q11]
          exact opw_val (v := y) (w' := w9) (by go_simp <;> (simp only [IntKind.wrap_u64, IntKind.wrap_i64] <;> omega)) ⟨_, rfl, by simp, hC, (Kept.refl _ _), rfl⟩
        · intro vx w9 hC hF
          have q12 : (vx 12) = y := hF (49, 12) (by simp)
          have q11 : (vx 11) = .bool false := hF (48, 11) (by simp)
          clear hF
          refine .inl ⟨⟨q11, rfl⟩, ?_⟩
          simp only [putsOf, q12, q11]
          refine opw_call [y] Try.func12 rfl (by kernel_rfl) rfl ?_
          refine (join_calls ls y w9 (ry.keep hC.2) (by rw [hy.out]; omega) (by omega)).mono ?_
          rintro e w1 ⟨v, rfl, H1⟩
          have h9 := Row.bs (H1.get (k := 0) rfl)
          rw [hy.out] at h9
          exact ⟨_, rfl, _, rfl, by simp, ⟨hC.1.trans H1.kept, hC.2.trans H1.kept⟩, H1.kept, h9⟩
        · intro vx w9 hC hF
          have q13 : BsAt w9 (vx 13) b := hF (50, 13) (by simp)
          obtain ⟨A13, c13, e13, l13, s13⟩ := q13
          have q11 : (vx 11) = .bool false := hF (48, 11) (by simp)
          clear hF
          refine .inl ⟨⟨q11, rfl⟩, ?_⟩
          simp only [putsOf, e13, q11]
          exact opw_str (l := b) Try.underlying26 Try.underlying5 Try.underlying9 rfl (s13) rfl ⟨_, rfl, by simp, hC, Kept.refl _ _, rfl⟩
        · intro vx w9 hC hF
          have q11 : (vx 11) = .bool false := hF (48, 11) (by simp)
          clear hF
          refine .inl ⟨⟨q11, rfl⟩, ?_⟩
          simp only [putsOf, q11]
          exact opw_val (v := .slice A b.length c) (w' := w9) (by go_simp <;> (simp only [IntKind.wrap_u64, IntKind.wrap_i64] <;> omega)) ⟨_, rfl, by simp, hC, (Kept.refl _ _), rfl⟩
        · intro vx w9 hC hF
          have q15 : (vx 15) = .slice A b.length c := hF (52, 15) (by simp)
          have q11 : (vx 11) = .bool false := hF (48, 11) (by simp)
          clear hF
          refine .inl ⟨⟨q11, rfl⟩, ?_⟩
          simp only [putsOf, q15, q11]
          exact opw_str (l := b) Try.underlying26 Try.underlying5 Try.underlying9 rfl (hA.keep hC.1) rfl ⟨_, rfl, by simp, hC, Kept.refl _ _, rfl⟩
        · intro vx w9 hC hF
          have q14 : (vx 14) = .string ⟨(b).toArray⟩ := hF (51, 14) (by simp)
          have q16 : (vx 16) = .string ⟨(b).toArray⟩ := hF (53, 16) (by simp)
          have q11 : (vx 11) = .bool false := hF (48, 11) (by simp)
          clear hF
          refine .inl ⟨⟨q11, rfl⟩, ?_⟩
          simp only [putsOf, q14, q16, q11]
          exact opw_val (v := .bool true) (w' := w9) (by go_simp <;> (simp only [IntKind.wrap_u64, IntKind.wrap_i64] <;> omega)) ⟨_, rfl, by simp, hC, (Kept.refl _ _), rfl⟩
        · intro vx w9 hC hF
          have q11 : (vx 11) = .bool false := hF (48, 11) (by simp)
          have q17 : (vx 17) = .bool true := hF (54, 17) (by simp)
          have q8 : (vx 8) = .bool true := hF (45, 8) (by simp)
          clear hF
          refine .inl ⟨⟨q8, rfl⟩, ?_⟩
          simp only [putsOf, q11, q17, q8]
          exact opw_val (v := .bool true) (w' := w9) (by go_simp <;> (simp only [IntKind.wrap_u64, IntKind.wrap_i64] <;> omega)) ⟨_, rfl, by simp, hC, (Kept.refl _ _), rfl⟩
        · intro vx w9 hC hF
          have q8 : (vx 8) = .bool true := hF (45, 8) (by simp)
          have q18 : (vx 18) = .bool true := hF (55, 18) (by simp)
          clear hF
          refine .inl ⟨trivial, ?_⟩
          simp only [putsOf, q8, q18]
          exact opw_val (v := .bool true) (w' := w9) (by go_simp <;> (simp only [IntKind.wrap_u64, IntKind.wrap_i64] <;> omega)) ⟨_, rfl, by simp, hC, (Kept.refl _ _), rfl⟩
        · intro vx w9 hC hF
          have q19 : (vx 19) = .bool true := hF (56, 19) (by simp)
          have q13 : BsAt w9 (vx 13) b := hF (50, 13) (by simp)
          obtain ⟨A13, c13, e13, l13, s13⟩ := q13
          have q0 : (vx 0) = .bool true := hF (37, 0) (by simp)
          have q1 : (vx 1) = .bool true := hF (38, 1) (by simp)
          have q2 : (vx 2) = .int .i64 0 := hF (39, 2) (by simp)
          have q3 : (vx 3) = .bool true := hF (40, 3) (by simp)
          have q4 : (vx 4) = .bool true := hF (41, 4) (by simp)
          have q5 : (vx 5) = .bool true := hF (42, 5) (by simp)
          have q6 : (vx 6) = .bool true := hF (43, 6) (by simp)
          have q7 : (vx 7) = .bool true := hF (44, 7) (by simp)
          have q8 : (vx 8) = .bool true := hF (45, 8) (by simp)
          have q9 : (vx 9) = .int .i64 0 := hF (46, 9) (by simp)
          have q10 : (vx 10) = .bool false := hF (47, 10) (by simp)
          have q11 : (vx 11) = .bool false := hF (48, 11) (by simp)
          have q12 : (vx 12) = y := hF (49, 12) (by simp)
          have q14 : (vx 14) = .string ⟨(b).toArray⟩ := hF (51, 14) (by simp)
          have q15 : (vx 15) = .slice A b.length c := hF (52, 15) (by simp)
          have q16 : (vx 16) = .string ⟨(b).toArray⟩ := hF (53, 16) (by simp)
          have q17 : (vx 17) = .bool true := hF (54, 17) (by simp)
          have q18 : (vx 18) = .bool true := hF (55, 18) (by simp)
          clear hF
          refine .inl ⟨trivial, ?_⟩
          simp only [putsOf, q19, e13, q0, q1, q2, q3, q4, q5, q6, q7, q8, q9, q10, q11, q12, q14, q15, q16, q17, q18]
          exact opw_val (v := .bool true) (w' := w9) (by go_simp <;> (simp only [IntKind.wrap_u64, IntKind.wrap_i64] <;> omega)) ⟨_, rfl, by simp, hC, (Kept.refl _ _), rfl⟩
        intro vx w9 hC hF
        have q0 : (vx 0) = .bool true := hF 0 (by simp)
        have q1 : (vx 1) = .bool true := hF 1 (by simp)
        have q2 : (vx 2) = .int .i64 0 := hF 2 (by simp)
        have q3 : (vx 3) = .bool true := hF 3 (by simp)
        have q4 : (vx 4) = .bool true := hF 4 (by simp)
        have q5 : (vx 5) = .bool true := hF 5 (by simp)
        have q6 : (vx 6) = .bool true := hF 6 (by simp)
        have q7 : (vx 7) = .bool true := hF 7 (by simp)
        have q8 : (vx 8) = .bool true := hF 8 (by simp)
        have q9 : (vx 9) = .int .i64 0 := hF 9 (by simp)
        have q10 : (vx 10) = .bool false := hF 10 (by simp)
        have q11 : (vx 11) = .bool false := hF 11 (by simp)
        have q12 : (vx 12) = y := hF 12 (by simp)
        have q13 : BsAt w9 (vx 13) b := hF 13 (by simp)
        obtain ⟨A13, c13, e13, l13, s13⟩ := q13
        have q14 : (vx 14) = .string ⟨(b).toArray⟩ := hF 14 (by simp)
        have q15 : (vx 15) = .slice A b.length c := hF 15 (by simp)
        have q16 : (vx 16) = .string ⟨(b).toArray⟩ := hF 16 (by simp)
        have q17 : (vx 17) = .bool true := hF 17 (by simp)
        have q18 : (vx 18) = .bool true := hF 18 (by simp)
        have q19 : (vx 19) = .bool true := hF 19 (by simp)
        have q20 : (vx 20) = .bool true := hF 20 (by simp)
        clear hF
        simp only [putsOf, q0, q1, q2, q3, q4, q5, q6, q7, q8, q9, q10, q11, q12, e13, q14, q15, q16, q17, q18, q19, q20]
        simp only [Act.put, List.setIfInBounds_toArray, List.set_cons_succ, List.set_cons_zero]
        clear q0 q1 q2 q3 q4 q5 q6 q7 q8 q9 q10 q11 q12 q14 q15 q16 q17 q18 q19 q20
        go_wp2_with (first | (with_reducible refine stop_box ?_) | (with_reducible refine stop_alloc ?_) | (with_reducible refine stop_load ?_) | (with_reducible refine stop_store ?_) | (with_reducible refine stop_make ?_) | (with_reducible refine stop_lit ?_) | (with_reducible refine stop_append ?_) | (with_reducible refine stop_copy ?_) | (with_reducible refine stop_map ?_) | (with_reducible refine stop_lookup ?_) | (with_reducible refine stop_update ?_) | (with_reducible refine stop_delete ?_) | (with_reducible refine stop_arr ?_) | (with_reducible refine stop_idx ?_) | (with_reducible refine stop_conv (e := 26) (f := 9) ?_) | ((with_reducible refine stopg_box ?hw ?_); case hw => rfl) | ((with_reducible refine stopg_alloc ?hw ?_); case hw => rfl) | ((with_reducible refine stopg_load ?hw ?_); case hw => rfl) | ((with_reducible refine stopg_store ?hw ?_); case hw => rfl) | ((with_reducible refine stopg_make ?hw ?_); case hw => rfl) | ((with_reducible refine stopg_lit ?hw ?_); case hw => rfl) | ((with_reducible refine stopg_append ?hw ?_); case hw => rfl) | ((with_reducible refine stopg_copy ?hw ?_); case hw => rfl) | ((with_reducible refine stopg_map ?hw ?_); case hw => rfl) | ((with_reducible refine stopg_lookup ?hw ?_); case hw => rfl) | ((with_reducible refine stopg_update ?hw ?_); case hw => rfl) | ((with_reducible refine stopg_delete ?hw ?_); case hw => rfl) | ((with_reducible refine stopg_arr ?hw ?_); case hw => rfl) | ((with_reducible refine stopg_conv (e := 26) (f := 9) ?hw ?_); case hw => rfl) | ((with_reducible refine stopg_idx ?hw ?_); case hw => rfl))
        go_ret
        exact ⟨rfl, hC.1⟩
    · have hb' : decide (2000 < (b.length : Int)) = true := by simp; omega
      go_wp2_with (first | (with_reducible refine stop_box ?_) | (with_reducible refine stop_alloc ?_) | (with_reducible refine stop_load ?_) | (with_reducible refine stop_store ?_) | (with_reducible refine stop_make ?_) | (with_reducible refine stop_lit ?_) | (with_reducible refine stop_append ?_) | (with_reducible refine stop_copy ?_) | (with_reducible refine stop_map ?_) | (with_reducible refine stop_lookup ?_) | (with_reducible refine stop_update ?_) | (with_reducible refine stop_delete ?_) | (with_reducible refine stop_arr ?_) | (with_reducible refine stop_idx ?_) | (with_reducible refine stop_conv (e := 26) (f := 9) ?_) | ((with_reducible refine stopg_box ?hw ?_); case hw => rfl) | ((with_reducible refine stopg_alloc ?hw ?_); case hw => rfl) | ((with_reducible refine stopg_load ?hw ?_); case hw => rfl) | ((with_reducible refine stopg_store ?hw ?_); case hw => rfl) | ((with_reducible refine stopg_make ?hw ?_); case hw => rfl) | ((with_reducible refine stopg_lit ?hw ?_); case hw => rfl) | ((with_reducible refine stopg_append ?hw ?_); case hw => rfl) | ((with_reducible refine stopg_copy ?hw ?_); case hw => rfl) | ((with_reducible refine stopg_map ?hw ?_); case hw => rfl) | ((with_reducible refine stopg_lookup ?hw ?_); case hw => rfl) | ((with_reducible refine stopg_update ?hw ?_); case hw => rfl) | ((with_reducible refine stopg_delete ?hw ?_); case hw => rfl) | ((with_reducible refine stopg_arr ?hw ?_); case hw => rfl) | ((with_reducible refine stopg_conv (e := 26) (f := 9) ?hw ?_); case hw => rfl) | ((with_reducible refine stopg_idx ?hw ?_); case hw => rfl))
      go_ret
      exact ⟨rfl, k⟩

namespace octetsBack
open Go.ChangeShapes Go.WideShapes Go.ChangeAt Go.RowKit
theorem own : ownKnob Try.prog.godebug = none := by kernel_rfl
theorem laidOut : laidOutB Try.prog = true := by kernel_rfl
set_option maxRecDepth 100000 in
theorem lifted (os : Os) (started : os.Started) (H : Type) (enc : TypeId × Value → H) :
    ReturnsInHanded {} Try.checked os 8 .any (Rows.octetsBackSpec.pre6 enc Try.prog Try.f8 Rows.octetsBackRow.domain false) (Rows.octetsBackSpec.post enc Try.prog Try.f8 false true false false) := by
  refine returnsInHanded_of_change (C := Try.checked) own started (by kernel_rfl) Try.func8
    (ChangeSpec.witness6 (enc := enc) (C := Try.checked) false ⟨#[], #[.slice none 0 0, .slice none 0 0], []⟩ 8 (by kernel_rfl) (by kernel_rfl) (by kernel_rfl) (by kernel_rfl)) ?_
  intro W base args ds gs before hval0 hW hcnd _
  have hval : ∀ (j : Nat) t v, Try.f8.params[j]? = some t → args[j]? = some v → Value.okWide Try.prog W .any base t v := hval0
  have hW' := hW
  obtain ⟨p, q, hA0, hV, rfl, hfz, hnd⟩ := hW
  have hA : DataW.TrodAll enc Try.prog W 0 (fun _ => true) true Try.f8.params.toList args.toList ds p := hA0
  rw [Try.params8] at hA hval
  obtain ⟨v0, vs0, d0, ds0, p0, q0, hargs, rfl, rfl, h0, r0⟩ := trodAll_cons hA
  obtain ⟨v1, vs1, d1, ds1, p1, q1, rfl, rfl, rfl, h1, r1⟩ := trodAll_cons r0
  obtain ⟨rfl, rfl, rfl⟩ := trodAll_nil r1
  obtain rfl : args = #[v0, v1] := by cases args; simp_all
  obtain ⟨rfl, rfl⟩ := trodVars_none hV
  have k0 := h0
  have lt0 : ∀ x ∈ p0, x.block < W.heap.size := by obtain ⟨m, hm⟩ := k0; exact DataW.trod_lt m _ _ _ hm
  have k1 := h1
  have lt1 : ∀ x ∈ p1, x.block < W.heap.size := by obtain ⟨m, hm⟩ := k1; exact DataW.trod_lt m _ _ _ hm
  obtain ⟨l0, g0⟩ := open_rows8 Try.underlying22 Try.underlying26 Try.underlying5 (by kernel_rfl) (by kernel_rfl) (hval 0 22 v0 rfl rfl) h0
  obtain ⟨l1, g1⟩ := open_bytes Try.underlying26 Try.underlying5 (by kernel_rfl) (hval 1 26 v1 rfl rfl) h1
  clear hA0 hval0
  refine (octetsBack.walk W v0 l0 g0 v1 l1 g1).mono fun e W' ⟨he, hK⟩ => ?_
  subst he
  have bel := hK.below
  exact ⟨_, rfl, _, _, _, [], _, [], hW', trodAll_mk1 (shut_bool Try.underlying4 _), (trodAll_cons_mk (Below.trod laidOut (by kernel_rfl) (of_decide_eq_true (by kernel_rfl)) k0 bel lt0) (trodAll_cons_mk (Below.trod laidOut (by kernel_rfl) (of_decide_eq_true (by kernel_rfl)) k1 bel lt1) trodAll_mk0)), rfl, bel.frame _, fun h => by cases h⟩
theorem over : Rows.octetsBackRow.holds Try.pinned (OpenSpec.ofChange Rows.octetsBackSpec) :=
  OpenClaim.holds_of_wide 8 Try.f8 rfl rfl rfl rfl rfl rfl rfl ⟨rfl, rfl, rfl, rfl, rfl⟩ rfl rfl rfl rfl rfl (by kernel_rfl) Try.func8 (by kernel_rfl)
    (of_decide_eq_true (by kernel_rfl)) (by unfold Func.isWrapper; first | (rw [if_pos (by decide +kernel)]; kernel_rfl) | (rw [if_neg (by decide +kernel)]; exact ⟨rfl, rfl⟩))
    (fun os started H enc _ => lifted os started H enc)
theorem proved : Rows.OctetsBackSaid := over
end octetsBack
/-- The row. -/
theorem octetsBack_holds : Rows.OctetsBackSaid := octetsBack.proved
#print axioms octetsBack_holds
end Go.Proofs.Ythdendffngihbaa
