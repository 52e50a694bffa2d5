/- Rows of bytes are joined to the same bytes just if they are the same: the statement OctetsUnlike. No condition. -/
import Derived.Test.YthdendffngihbaaRows
import Derived.Test.YthdendffngihbaaA01
import Derived.Test.YthdendffngihbaaP01
import Derived.Test.YthdendffngihbaaPG
import Derived.Test.YthdendffngihbaaK01b
namespace Go.Proofs.Ythdendffngihbaa
open Go.RowKit Go.PBYthdendffngihbaa
set_option linter.unusedVariables false
set_option linter.unusedSimpArgs false
set_option maxRecDepth 10000

theorem octetsUnlike.rows {w : World} {v : Value} {ls : List (List UInt8)} (h : RsArg w v ls) : RowsAt w v ls ∧ ls.length ≤ 9223372036854775807 ∧ ∀ b ∈ ls, b.length ≤ 9223372036854775807 := by
  obtain ⟨A, c, vs, rfl, h1, h2, h3, h4, h5⟩ := h
  refine ⟨⟨A, c, vs, rfl, h1, h3, h4, fun i u l hu hl => ?_⟩, by omega, fun b hb => ?_⟩
  · obtain ⟨A1, c1, rfl, g1, g2, g3⟩ := h5 i u l hu hl
    exact ⟨A1, c1, rfl, g1, g3⟩
  · obtain ⟨i, hi⟩ := List.mem_iff_getElem?.1 hb
    have hil := (List.getElem?_eq_some_iff.1 hi).1
    obtain ⟨A1, c1, _, g1, g2, g3⟩ := h5 i _ b (List.getElem?_eq_getElem (by omega)) hi
    omega

set_option maxHeartbeats 800000 in
theorem octetsUnlike.walk (w : World) (v0 : Value) (a : List (List UInt8)) (h0 : RsArg w v0 a) (v1 : Value) (b : List (List UInt8)) (h1 : RsArg w v1 b) :
    Calls Try.prog 3 #[v0, v1] w fun e w' => e = .returned (.bool true) ∧ Kept [] w w' := by
  obtain ⟨ra, na, ba⟩ := octetsUnlike.rows h0
  obtain ⟨rb, nb, bb⟩ := octetsUnlike.rows h1
  clear h0 h1
  have ba' := Lib.hid ba
  have bb' := Lib.hid bb
  clear ba bb
  go_enter Try.func3, Try.ntmps3
  go_wp2_with (first | (with_reducible refine stop_box ?_) | (with_reducible refine stop_alloc ?_) | (with_reducible refine stop_load ?_) | (with_reducible refine stop_store ?_) | (with_reducible refine stop_make ?_) | (with_reducible refine stop_lit ?_) | (with_reducible refine stop_append ?_) | (with_reducible refine stop_copy ?_) | (with_reducible refine stop_map ?_) | (with_reducible refine stop_lookup ?_) | (with_reducible refine stop_update ?_) | (with_reducible refine stop_delete ?_) | (with_reducible refine stop_arr ?_) | (with_reducible refine stop_idx ?_) | (with_reducible refine stop_conv (e := 26) (f := 9) ?_) | ((with_reducible refine stopg_box ?hw ?_); case hw => rfl) | ((with_reducible refine stopg_alloc ?hw ?_); case hw => rfl) | ((with_reducible refine stopg_load ?hw ?_); case hw => rfl) | ((with_reducible refine stopg_store ?hw ?_); case hw => rfl) | ((with_reducible refine stopg_make ?hw ?_); case hw => rfl) | ((with_reducible refine stopg_lit ?hw ?_); case hw => rfl) | ((with_reducible refine stopg_append ?hw ?_); case hw => rfl) | ((with_reducible refine stopg_copy ?hw ?_); case hw => rfl) | ((with_reducible refine stopg_map ?hw ?_); case hw => rfl) | ((with_reducible refine stopg_lookup ?hw ?_); case hw => rfl) | ((with_reducible refine stopg_update ?hw ?_); case hw => rfl) | ((with_reducible refine stopg_delete ?hw ?_); case hw => rfl) | ((with_reducible refine stopg_arr ?hw ?_); case hw => rfl) | ((with_reducible refine stopg_conv (e := 26) (f := 9) ?hw ?_); case hw => rfl) | ((with_reducible refine stopg_idx ?hw ?_); case hw => rfl))
  refine (awake_calls w).mono ?_
  rintro e w1 ⟨rfl, k1⟩
  go_wp2_with (first | (with_reducible refine stop_box ?_) | (with_reducible refine stop_alloc ?_) | (with_reducible refine stop_load ?_) | (with_reducible refine stop_store ?_) | (with_reducible refine stop_make ?_) | (with_reducible refine stop_lit ?_) | (with_reducible refine stop_append ?_) | (with_reducible refine stop_copy ?_) | (with_reducible refine stop_map ?_) | (with_reducible refine stop_lookup ?_) | (with_reducible refine stop_update ?_) | (with_reducible refine stop_delete ?_) | (with_reducible refine stop_arr ?_) | (with_reducible refine stop_idx ?_) | (with_reducible refine stop_conv (e := 26) (f := 9) ?_) | ((with_reducible refine stopg_box ?hw ?_); case hw => rfl) | ((with_reducible refine stopg_alloc ?hw ?_); case hw => rfl) | ((with_reducible refine stopg_load ?hw ?_); case hw => rfl) | ((with_reducible refine stopg_store ?hw ?_); case hw => rfl) | ((with_reducible refine stopg_make ?hw ?_); case hw => rfl) | ((with_reducible refine stopg_lit ?hw ?_); case hw => rfl) | ((with_reducible refine stopg_append ?hw ?_); case hw => rfl) | ((with_reducible refine stopg_copy ?hw ?_); case hw => rfl) | ((with_reducible refine stopg_map ?hw ?_); case hw => rfl) | ((with_reducible refine stopg_lookup ?hw ?_); case hw => rfl) | ((with_reducible refine stopg_update ?hw ?_); case hw => rfl) | ((with_reducible refine stopg_delete ?hw ?_); case hw => rfl) | ((with_reducible refine stopg_arr ?hw ?_); case hw => rfl) | ((with_reducible refine stopg_conv (e := 26) (f := 9) ?hw ?_); case hw => rfl) | ((with_reducible refine stopg_idx ?hw ?_); case hw => rfl))
  refine (light_calls a v0 w1 (ra.keep k1) na ba'.out).mono ?_
  rintro e w2 ⟨rfl, k2⟩
  go_wp2_with (first | (with_reducible refine stop_box ?_) | (with_reducible refine stop_alloc ?_) | (with_reducible refine stop_load ?_) | (with_reducible refine stop_store ?_) | (with_reducible refine stop_make ?_) | (with_reducible refine stop_lit ?_) | (with_reducible refine stop_append ?_) | (with_reducible refine stop_copy ?_) | (with_reducible refine stop_map ?_) | (with_reducible refine stop_lookup ?_) | (with_reducible refine stop_update ?_) | (with_reducible refine stop_delete ?_) | (with_reducible refine stop_arr ?_) | (with_reducible refine stop_idx ?_) | (with_reducible refine stop_conv (e := 26) (f := 9) ?_) | ((with_reducible refine stopg_box ?hw ?_); case hw => rfl) | ((with_reducible refine stopg_alloc ?hw ?_); case hw => rfl) | ((with_reducible refine stopg_load ?hw ?_); case hw => rfl) | ((with_reducible refine stopg_store ?hw ?_); case hw => rfl) | ((with_reducible refine stopg_make ?hw ?_); case hw => rfl) | ((with_reducible refine stopg_lit ?hw ?_); case hw => rfl) | ((with_reducible refine stopg_append ?hw ?_); case hw => rfl) | ((with_reducible refine stopg_copy ?hw ?_); case hw => rfl) | ((with_reducible refine stopg_map ?hw ?_); case hw => rfl) | ((with_reducible refine stopg_lookup ?hw ?_); case hw => rfl) | ((with_reducible refine stopg_update ?hw ?_); case hw => rfl) | ((with_reducible refine stopg_delete ?hw ?_); case hw => rfl) | ((with_reducible refine stopg_arr ?hw ?_); case hw => rfl) | ((with_reducible refine stopg_conv (e := 26) (f := 9) ?hw ?_); case hw => rfl) | ((with_reducible refine stopg_idx ?hw ?_); case hw => rfl))
  refine (light_calls b v1 w2 (rb.keep (k1.trans k2)) nb bb'.out).mono ?_
  rintro e w3 ⟨rfl, k3⟩
  have k := (k1.trans k2).trans k3
  clear k1 k2 k3
  by_cases hl : lightB a = true ∧ lightB b = true
  · obtain ⟨la, lb⟩ := hl
    have ja := Lib.hid (light_join la)
    have jb := Lib.hid (light_join lb)
    go_wp2_with (first | (with_reducible refine stop_box ?_) | (with_reducible refine stop_alloc ?_) | (with_reducible refine stop_load ?_) | (with_reducible refine stop_store ?_) | (with_reducible refine stop_make ?_) | (with_reducible refine stop_lit ?_) | (with_reducible refine stop_append ?_) | (with_reducible refine stop_copy ?_) | (with_reducible refine stop_map ?_) | (with_reducible refine stop_lookup ?_) | (with_reducible refine stop_update ?_) | (with_reducible refine stop_delete ?_) | (with_reducible refine stop_arr ?_) | (with_reducible refine stop_idx ?_) | (with_reducible refine stop_conv (e := 26) (f := 9) ?_) | ((with_reducible refine stopg_box ?hw ?_); case hw => rfl) | ((with_reducible refine stopg_alloc ?hw ?_); case hw => rfl) | ((with_reducible refine stopg_load ?hw ?_); case hw => rfl) | ((with_reducible refine stopg_store ?hw ?_); case hw => rfl) | ((with_reducible refine stopg_make ?hw ?_); case hw => rfl) | ((with_reducible refine stopg_lit ?hw ?_); case hw => rfl) | ((with_reducible refine stopg_append ?hw ?_); case hw => rfl) | ((with_reducible refine stopg_copy ?hw ?_); case hw => rfl) | ((with_reducible refine stopg_map ?hw ?_); case hw => rfl) | ((with_reducible refine stopg_lookup ?hw ?_); case hw => rfl) | ((with_reducible refine stopg_update ?hw ?_); case hw => rfl) | ((with_reducible refine stopg_delete ?hw ?_); case hw => rfl) | ((with_reducible refine stopg_arr ?hw ?_); case hw => rfl) | ((with_reducible refine stopg_conv (e := 26) (f := 9) ?hw ?_); case hw => rfl) | ((with_reducible refine stopg_idx ?hw ?_); case hw => rfl))
    refine (sameRows_calls a b v0 v1 w3 (ra.keep k) (rb.keep k) (by have := ja.out; omega) (by have := jb.out; omega)).mono ?_
    rintro e w4 ⟨rfl, k4⟩
    have k5 := k.trans k4
    clear k k4
    go_wp2_with (first | (with_reducible refine stop_box ?_) | (with_reducible refine stop_alloc ?_) | (with_reducible refine stop_load ?_) | (with_reducible refine stop_store ?_) | (with_reducible refine stop_make ?_) | (with_reducible refine stop_lit ?_) | (with_reducible refine stop_append ?_) | (with_reducible refine stop_copy ?_) | (with_reducible refine stop_map ?_) | (with_reducible refine stop_lookup ?_) | (with_reducible refine stop_update ?_) | (with_reducible refine stop_delete ?_) | (with_reducible refine stop_arr ?_) | (with_reducible refine stop_idx ?_) | (with_reducible refine stop_conv (e := 26) (f := 9) ?_) | ((with_reducible refine stopg_box ?hw ?_); case hw => rfl) | ((with_reducible refine stopg_alloc ?hw ?_); case hw => rfl) | ((with_reducible refine stopg_load ?hw ?_); case hw => rfl) | ((with_reducible refine stopg_store ?hw ?_); case hw => rfl) | ((with_reducible refine stopg_make ?hw ?_); case hw => rfl) | ((with_reducible refine stopg_lit ?hw ?_); case hw => rfl) | ((with_reducible refine stopg_append ?hw ?_); case hw => rfl) | ((with_reducible refine stopg_copy ?hw ?_); case hw => rfl) | ((with_reducible refine stopg_map ?hw ?_); case hw => rfl) | ((with_reducible refine stopg_lookup ?hw ?_); case hw => rfl) | ((with_reducible refine stopg_update ?hw ?_); case hw => rfl) | ((with_reducible refine stopg_delete ?hw ?_); case hw => rfl) | ((with_reducible refine stopg_arr ?hw ?_); case hw => rfl) | ((with_reducible refine stopg_conv (e := 26) (f := 9) ?hw ?_); case hw => rfl) | ((with_reducible refine stopg_idx ?hw ?_); case hw => rfl))
    refine wp_region_all (n := 36) (fun w' => Kept [] w w') (regF [fun v _ => v = .bool true, fun v _ => v = .bool true, fun v _ => v = v0, fun v w' => BsAt w' v (joinB a), fun v _ => v = .string ⟨(joinB a).toArray⟩, fun v _ => v = v1, fun v w' => BsAt w' v (joinB b), fun v _ => v = .string ⟨(joinB b).toArray⟩, fun v _ => v = .bool (joinB a == joinB b), fun v _ => v = .bool (decide (a = b)), fun v _ => v = .bool true, fun v _ => v = .bool true, fun v _ => v = .bool true]) [[], [(24, 0)], [(25, 1)], [(26, 2), (25, 1)], [(27, 3), (25, 1)], [(25, 1)], [(29, 5), (27, 3), (25, 1)], [(30, 6), (25, 1)], [(28, 4), (31, 7), (25, 1)], [(25, 1)], [(32, 8), (33, 9), (25, 1)], [(25, 1), (34, 10)], [(35, 11), (30, 6), (24, 0), (25, 1), (26, 2), (27, 3), (28, 4), (29, 5), (31, 7), (32, 8), (33, 9), (34, 10)]] [(24, 0), (25, 1), (26, 2), (27, 3), (28, 4), (29, 5), (30, 6), (31, 7), (32, 8), (33, 9), (34, 10), (35, 11), (4, 12)] (by kernel_rfl) (by kernel_rfl) rfl k5.drew (regF_stable ⟨Stable.eq _, Stable.eq _, Stable.eq _, (fun _ _ hK _ h => BsAt.keep h hK), Stable.eq _, Stable.eq _, (fun _ _ hK _ h => BsAt.keep h hK), Stable.eq _, Stable.eq _, Stable.eq _, Stable.eq _, Stable.eq _, Stable.eq _, trivial⟩) ⟨?_, ?_, ?_, ?_, ?_, ?_, ?_, ?_, ?_, ?_, ?_, ?_, ?_, trivial⟩ ?_
    · intro vx w9 hC hF
      clear hF
      refine ⟨trivial, ?_⟩
      simp only [putsOf]
      exact opw_val (v := .bool true) (w' := w9) (by go_simp <;> (simp only [IntKind.wrap_u64, IntKind.wrap_i64] <;> omega)) ⟨_, rfl, by simp, hC, (Kept.refl _ _), rfl⟩
    · intro vx w9 hC hF
      have q0 : (vx 0) = .bool true := hF (24, 0) (by simp)
      clear hF
      refine ⟨trivial, ?_⟩
      simp only [putsOf, q0]
      exact opw_val (v := .bool true) (w' := w9) (by go_simp <;> (simp only [IntKind.wrap_u64, IntKind.wrap_i64] <;> omega)) ⟨_, rfl, by simp, hC, (Kept.refl _ _), rfl⟩
    · intro vx w9 hC hF
      have q1 : (vx 1) = .bool true := hF (25, 1) (by simp)
      clear hF
      refine ⟨⟨q1, rfl⟩, ?_⟩
      simp only [putsOf, q1]
      exact opw_val (v := v0) (w' := w9) (by go_simp <;> (simp only [IntKind.wrap_u64, IntKind.wrap_i64] <;> omega)) ⟨_, rfl, by simp, hC, (Kept.refl _ _), rfl⟩
    · intro vx w9 hC hF
      have q2 : (vx 2) = v0 := hF (26, 2) (by simp)
      have q1 : (vx 1) = .bool true := hF (25, 1) (by simp)
      clear hF
      refine ⟨⟨q1, rfl⟩, ?_⟩
      simp only [putsOf, q2, q1]
      refine opw_call [v0] Try.func12 rfl (by kernel_rfl) rfl ?_
      refine (join_calls a v0 w9 (ra.keep hC) (by have := ja.out; omega) (by have := ja.out; omega)).mono ?_
      rintro e w1 ⟨v, rfl, H1⟩
      exact ⟨_, rfl, _, rfl, by simp, hC.trans H1.kept, H1.kept, Row.bs (H1.get (k := 0) rfl)⟩
    · intro vx w9 hC hF
      have q3 : BsAt w9 (vx 3) (joinB a) := hF (27, 3) (by simp)
      obtain ⟨A3, c3, e3, l3, s3⟩ := q3
      have q1 : (vx 1) = .bool true := hF (25, 1) (by simp)
      clear hF
      refine ⟨⟨q1, rfl⟩, ?_⟩
      simp only [putsOf, e3, q1]
      exact opw_str (l := joinB a) Try.underlying26 Try.underlying5 Try.underlying9 rfl s3 rfl ⟨_, rfl, by simp, hC, Kept.refl _ _, rfl⟩
    · intro vx w9 hC hF
      have q1 : (vx 1) = .bool true := hF (25, 1) (by simp)
      clear hF
      refine ⟨⟨q1, rfl⟩, ?_⟩
      simp only [putsOf, q1]
      exact opw_val (v := v1) (w' := w9) (by go_simp <;> (simp only [IntKind.wrap_u64, IntKind.wrap_i64] <;> omega)) ⟨_, rfl, by simp, hC, (Kept.refl _ _), rfl⟩
    · intro vx w9 hC hF
      have q5 : (vx 5) = v1 := hF (29, 5) (by simp)
      have q3 : BsAt w9 (vx 3) (joinB a) := hF (27, 3) (by simp)
      obtain ⟨A3, c3, e3, l3, s3⟩ := q3
      have q1 : (vx 1) = .bool true := hF (25, 1) (by simp)
      clear hF
      refine ⟨⟨q1, rfl⟩, ?_⟩
      simp only [putsOf, q5, e3, q1]
      refine opw_call [v1] Try.func12 rfl (by kernel_rfl) rfl ?_
      refine (join_calls b v1 w9 (rb.keep hC) (by have := jb.out; omega) (by have := jb.out; omega)).mono ?_
      rintro e w1 ⟨v, rfl, H1⟩
      exact ⟨_, rfl, _, rfl, by simp, hC.trans H1.kept, H1.kept, Row.bs (H1.get (k := 0) rfl)⟩
    · intro vx w9 hC hF
      have q6 : BsAt w9 (vx 6) (joinB b) := hF (30, 6) (by simp)
      obtain ⟨A6, c6, e6, l6, s6⟩ := q6
      have q1 : (vx 1) = .bool true := hF (25, 1) (by simp)
      clear hF
      refine ⟨⟨q1, rfl⟩, ?_⟩
      simp only [putsOf, e6, q1]
      exact opw_str (l := joinB b) Try.underlying26 Try.underlying5 Try.underlying9 rfl s6 rfl ⟨_, rfl, by simp, hC, Kept.refl _ _, rfl⟩
    · intro vx w9 hC hF
      have q4 : (vx 4) = .string ⟨(joinB a).toArray⟩ := hF (28, 4) (by simp)
      have q7 : (vx 7) = .string ⟨(joinB b).toArray⟩ := hF (31, 7) (by simp)
      have q1 : (vx 1) = .bool true := hF (25, 1) (by simp)
      clear hF
      refine ⟨⟨q1, rfl⟩, ?_⟩
      simp only [putsOf, q4, q7, q1]
      exact opw_val (v := .bool (joinB a == joinB b)) (w' := w9) (by go_simp <;> (simp only [IntKind.wrap_u64, IntKind.wrap_i64] <;> omega)) ⟨_, rfl, by simp, hC, (Kept.refl _ _), rfl⟩
    · intro vx w9 hC hF
      have q1 : (vx 1) = .bool true := hF (25, 1) (by simp)
      clear hF
      refine ⟨⟨q1, rfl⟩, ?_⟩
      simp only [putsOf, q1]
      exact opw_val (v := .bool (decide (a = b))) (w' := w9) (by go_simp <;> (simp only [IntKind.wrap_u64, IntKind.wrap_i64] <;> omega)) ⟨_, rfl, by simp, hC, (Kept.refl _ _), rfl⟩
    · intro vx w9 hC hF
      have q8 : (vx 8) = .bool (joinB a == joinB b) := hF (32, 8) (by simp)
      have q9 : (vx 9) = .bool (decide (a = b)) := hF (33, 9) (by simp)
      have q1 : (vx 1) = .bool true := hF (25, 1) (by simp)
      clear hF
      refine ⟨⟨q1, rfl⟩, ?_⟩
      simp only [putsOf, q8, q9, q1]
      have hj := joinB_inj (a := a) (b := b) (by have := ja.out; exact this.2.2) (by have := jb.out; exact this.2.2)
      rw [hj]
      exact opw_val (v := .bool true) (w' := w9) (by go_simp) ⟨_, rfl, by simp, hC, Kept.refl _ _, rfl⟩
    · intro vx w9 hC hF
      have q1 : (vx 1) = .bool true := hF (25, 1) (by simp)
      have q10 : (vx 10) = .bool true := hF (34, 10) (by simp)
      clear hF
      refine ⟨trivial, ?_⟩
      simp only [putsOf, q1, q10]
      exact opw_val (v := .bool true) (w' := w9) (by go_simp <;> (simp only [IntKind.wrap_u64, IntKind.wrap_i64] <;> omega)) ⟨_, rfl, by simp, hC, (Kept.refl _ _), rfl⟩
    · intro vx w9 hC hF
      have q11 : (vx 11) = .bool true := hF (35, 11) (by simp)
      have q6 : BsAt w9 (vx 6) (joinB b) := hF (30, 6) (by simp)
      obtain ⟨A6, c6, e6, l6, s6⟩ := q6
      have q0 : (vx 0) = .bool true := hF (24, 0) (by simp)
      have q1 : (vx 1) = .bool true := hF (25, 1) (by simp)
      have q2 : (vx 2) = v0 := hF (26, 2) (by simp)
      have q3 : BsAt w9 (vx 3) (joinB a) := hF (27, 3) (by simp)
      obtain ⟨A3, c3, e3, l3, s3⟩ := q3
      have q4 : (vx 4) = .string ⟨(joinB a).toArray⟩ := hF (28, 4) (by simp)
      have q5 : (vx 5) = v1 := hF (29, 5) (by simp)
      have q7 : (vx 7) = .string ⟨(joinB b).toArray⟩ := hF (31, 7) (by simp)
      have q8 : (vx 8) = .bool (joinB a == joinB b) := hF (32, 8) (by simp)
      have q9 : (vx 9) = .bool (decide (a = b)) := hF (33, 9) (by simp)
      have q10 : (vx 10) = .bool true := hF (34, 10) (by simp)
      clear hF
      refine ⟨trivial, ?_⟩
      simp only [putsOf, q11, e6, q0, q1, q2, e3, q4, q5, q7, q8, q9, q10]
      exact opw_val (v := .bool true) (w' := w9) (by go_simp <;> (simp only [IntKind.wrap_u64, IntKind.wrap_i64] <;> omega)) ⟨_, rfl, by simp, hC, (Kept.refl _ _), rfl⟩
    intro vx w9 hC hF
    have q0 : (vx 0) = .bool true := hF 0 (by simp)
    have q1 : (vx 1) = .bool true := hF 1 (by simp)
    have q2 : (vx 2) = v0 := hF 2 (by simp)
    have q3 : BsAt w9 (vx 3) (joinB a) := hF 3 (by simp)
    obtain ⟨A3, c3, e3, l3, s3⟩ := q3
    have q4 : (vx 4) = .string ⟨(joinB a).toArray⟩ := hF 4 (by simp)
    have q5 : (vx 5) = v1 := hF 5 (by simp)
    have q6 : BsAt w9 (vx 6) (joinB b) := hF 6 (by simp)
    obtain ⟨A6, c6, e6, l6, s6⟩ := q6
    have q7 : (vx 7) = .string ⟨(joinB b).toArray⟩ := hF 7 (by simp)
    have q8 : (vx 8) = .bool (joinB a == joinB b) := hF 8 (by simp)
    have q9 : (vx 9) = .bool (decide (a = b)) := hF 9 (by simp)
    have q10 : (vx 10) = .bool true := hF 10 (by simp)
    have q11 : (vx 11) = .bool true := hF 11 (by simp)
    have q12 : (vx 12) = .bool true := hF 12 (by simp)
    clear hF
    simp only [putsOf, q0, q1, q2, e3, q4, q5, e6, q7, q8, q9, q10, q11, q12]
    simp only [Act.put, List.setIfInBounds_toArray, List.set_cons_succ, List.set_cons_zero]
    clear q0 q1 q2 q4 q5 q7 q8 q9 q10 q11 q12
    go_wp2_with (first | (with_reducible refine stop_box ?_) | (with_reducible refine stop_alloc ?_) | (with_reducible refine stop_load ?_) | (with_reducible refine stop_store ?_) | (with_reducible refine stop_make ?_) | (with_reducible refine stop_lit ?_) | (with_reducible refine stop_append ?_) | (with_reducible refine stop_copy ?_) | (with_reducible refine stop_map ?_) | (with_reducible refine stop_lookup ?_) | (with_reducible refine stop_update ?_) | (with_reducible refine stop_delete ?_) | (with_reducible refine stop_arr ?_) | (with_reducible refine stop_idx ?_) | (with_reducible refine stop_conv (e := 26) (f := 9) ?_) | ((with_reducible refine stopg_box ?hw ?_); case hw => rfl) | ((with_reducible refine stopg_alloc ?hw ?_); case hw => rfl) | ((with_reducible refine stopg_load ?hw ?_); case hw => rfl) | ((with_reducible refine stopg_store ?hw ?_); case hw => rfl) | ((with_reducible refine stopg_make ?hw ?_); case hw => rfl) | ((with_reducible refine stopg_lit ?hw ?_); case hw => rfl) | ((with_reducible refine stopg_append ?hw ?_); case hw => rfl) | ((with_reducible refine stopg_copy ?hw ?_); case hw => rfl) | ((with_reducible refine stopg_map ?hw ?_); case hw => rfl) | ((with_reducible refine stopg_lookup ?hw ?_); case hw => rfl) | ((with_reducible refine stopg_update ?hw ?_); case hw => rfl) | ((with_reducible refine stopg_delete ?hw ?_); case hw => rfl) | ((with_reducible refine stopg_arr ?hw ?_); case hw => rfl) | ((with_reducible refine stopg_conv (e := 26) (f := 9) ?hw ?_); case hw => rfl) | ((with_reducible refine stopg_idx ?hw ?_); case hw => rfl))
    go_ret
    exact ⟨rfl, hC⟩
  · have hl' : (!lightB a || !lightB b) = true := by
      cases ha : lightB a <;> cases hb : lightB b <;> simp_all
    cases ha : lightB a <;> cases hb : lightB b <;> rw [ha, hb] at hl' <;> clear hl
    all_goals first
      | (simp at hl'; done)
      | (clear hl'
         go_wp2_with (first | (with_reducible refine stop_box ?_) | (with_reducible refine stop_alloc ?_) | (with_reducible refine stop_load ?_) | (with_reducible refine stop_store ?_) | (with_reducible refine stop_make ?_) | (with_reducible refine stop_lit ?_) | (with_reducible refine stop_append ?_) | (with_reducible refine stop_copy ?_) | (with_reducible refine stop_map ?_) | (with_reducible refine stop_lookup ?_) | (with_reducible refine stop_update ?_) | (with_reducible refine stop_delete ?_) | (with_reducible refine stop_arr ?_) | (with_reducible refine stop_idx ?_) | (with_reducible refine stop_conv (e := 26) (f := 9) ?_) | ((with_reducible refine stopg_box ?hw ?_); case hw => rfl) | ((with_reducible refine stopg_alloc ?hw ?_); case hw => rfl) | ((with_reducible refine stopg_load ?hw ?_); case hw => rfl) | ((with_reducible refine stopg_store ?hw ?_); case hw => rfl) | ((with_reducible refine stopg_make ?hw ?_); case hw => rfl) | ((with_reducible refine stopg_lit ?hw ?_); case hw => rfl) | ((with_reducible refine stopg_append ?hw ?_); case hw => rfl) | ((with_reducible refine stopg_copy ?hw ?_); case hw => rfl) | ((with_reducible refine stopg_map ?hw ?_); case hw => rfl) | ((with_reducible refine stopg_lookup ?hw ?_); case hw => rfl) | ((with_reducible refine stopg_update ?hw ?_); case hw => rfl) | ((with_reducible refine stopg_delete ?hw ?_); case hw => rfl) | ((with_reducible refine stopg_arr ?hw ?_); case hw => rfl) | ((with_reducible refine stopg_conv (e := 26) (f := 9) ?hw ?_); case hw => rfl) | ((with_reducible refine stopg_idx ?hw ?_); case hw => rfl))
         go_ret
         exact ⟨rfl, k⟩)

namespace octetsUnlike
open Go.ChangeShapes Go.WideShapes Go.ChangeAt Go.RowKit
theorem own : ownKnob Try.prog.godebug = none := by kernel_rfl
theorem laidOut : laidOutB Try.prog = true := by kernel_rfl
set_option maxRecDepth 100000 in
theorem lifted (os : Os) (started : os.Started) (H : Type) (enc : TypeId × Value → H) :
    ReturnsInHanded {} Try.checked os 3 .any (Rows.octetsUnlikeSpec.pre6 enc Try.prog Try.f3 Rows.octetsUnlikeRow.domain false) (Rows.octetsUnlikeSpec.post enc Try.prog Try.f3 false true false false) := by
  refine returnsInHanded_of_change (C := Try.checked) own started (by kernel_rfl) Try.func3
    (ChangeSpec.witness6 (enc := enc) (C := Try.checked) false ⟨#[], #[.slice none 0 0, .slice none 0 0], []⟩ 8 (by kernel_rfl) (by kernel_rfl) (by kernel_rfl) (by kernel_rfl)) ?_
  intro W base args ds gs before hval0 hW hcnd _
  have hval : ∀ (j : Nat) t v, Try.f3.params[j]? = some t → args[j]? = some v → Value.okWide Try.prog W .any base t v := hval0
  have hW' := hW
  obtain ⟨p, q, hA0, hV, rfl, hfz, hnd⟩ := hW
  have hA : DataW.TrodAll enc Try.prog W 0 (fun _ => true) true Try.f3.params.toList args.toList ds p := hA0
  rw [Try.params3] at hA hval
  obtain ⟨v0, vs0, d0, ds0, p0, q0, hargs, rfl, rfl, h0, r0⟩ := trodAll_cons hA
  obtain ⟨v1, vs1, d1, ds1, p1, q1, rfl, rfl, rfl, h1, r1⟩ := trodAll_cons r0
  obtain ⟨rfl, rfl, rfl⟩ := trodAll_nil r1
  obtain rfl : args = #[v0, v1] := by cases args; simp_all
  obtain ⟨rfl, rfl⟩ := trodVars_none hV
  have k0 := h0
  have lt0 : ∀ x ∈ p0, x.block < W.heap.size := by obtain ⟨m, hm⟩ := k0; exact DataW.trod_lt m _ _ _ hm
  have k1 := h1
  have lt1 : ∀ x ∈ p1, x.block < W.heap.size := by obtain ⟨m, hm⟩ := k1; exact DataW.trod_lt m _ _ _ hm
  obtain ⟨l0, g0⟩ := open_rows8 Try.underlying22 Try.underlying26 Try.underlying5 (by kernel_rfl) (by kernel_rfl) (hval 0 22 v0 rfl rfl) h0
  obtain ⟨l1, g1⟩ := open_rows8 Try.underlying22 Try.underlying26 Try.underlying5 (by kernel_rfl) (by kernel_rfl) (hval 1 22 v1 rfl rfl) h1
  clear hA0 hval0
  refine (octetsUnlike.walk W v0 l0 g0 v1 l1 g1).mono fun e W' ⟨he, hK⟩ => ?_
  subst he
  have bel := hK.below
  exact ⟨_, rfl, _, _, _, [], _, [], hW', trodAll_mk1 (shut_bool Try.underlying4 _), (trodAll_cons_mk (Below.trod laidOut (by kernel_rfl) (of_decide_eq_true (by kernel_rfl)) k0 bel lt0) (trodAll_cons_mk (Below.trod laidOut (by kernel_rfl) (of_decide_eq_true (by kernel_rfl)) k1 bel lt1) trodAll_mk0)), rfl, bel.frame _, fun h => by cases h⟩
theorem over : Rows.octetsUnlikeRow.holds Try.pinned (OpenSpec.ofChange Rows.octetsUnlikeSpec) :=
  OpenClaim.holds_of_wide 3 Try.f3 rfl rfl rfl rfl rfl rfl rfl ⟨rfl, rfl, rfl, rfl, rfl⟩ rfl rfl rfl rfl rfl (by kernel_rfl) Try.func3 (by kernel_rfl)
    (of_decide_eq_true (by kernel_rfl)) (by unfold Func.isWrapper; first | (rw [if_pos (by decide +kernel)]; kernel_rfl) | (rw [if_neg (by decide +kernel)]; exact ⟨rfl, rfl⟩))
    (fun os started H enc _ => lifted os started H enc)
theorem proved : Rows.OctetsUnlikeSaid := over
end octetsUnlike
/-- The row. -/
theorem octetsUnlike_holds : Rows.OctetsUnlikeSaid := octetsUnlike.proved
#print axioms octetsUnlike_holds
end Go.Proofs.Ythdendffngihbaa
