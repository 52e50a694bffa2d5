/- Rows that are joined one by one are those that are joined at once: the statement OctetsGrow. No condition. -/
import Derived.Test.YthdendffngihbaaQ01
namespace Go.Proofs.Ythdendffngihbaa
open Go.RowKit Go.PBYthdendffngihbaa
set_option linter.unusedVariables false
set_option linter.unusedSimpArgs false
set_option maxRecDepth 10000

theorem octetsGrow.one : (joinB [[]]) = [0, 0, 0, 0] := by decide +kernel

set_option maxHeartbeats 1600000 in
theorem octetsGrow.walk (w : World) (v0 : Value) (a : List (List UInt8)) (h0 : RsArg w v0 a) (v1 : Value) (b : List (List UInt8)) (h1 : RsArg w v1 b) :
    Calls Try.prog 4 #[v0, v1] w fun e w' => e = .returned (.bool true) ∧ Kept [] w w' := by
  obtain ⟨ra, na, ba⟩ := rows_arg h0
  obtain ⟨rb, nb, bb⟩ := rows_arg h1
  clear h0 h1
  have ba' := Lib.hid ba
  have bb' := Lib.hid bb
  clear ba bb
  have H := St.refl w
  go_enter Try.func4, Try.ntmps4
  go_wp2_with (first | (with_reducible refine stop_box ?_) | (with_reducible refine stop_alloc ?_) | (with_reducible refine stop_load ?_) | (with_reducible refine stop_store ?_) | (with_reducible refine stop_make ?_) | (with_reducible refine stop_lit ?_) | (with_reducible refine stop_append ?_) | (with_reducible refine stop_copy ?_) | (with_reducible refine stop_map ?_) | (with_reducible refine stop_lookup ?_) | (with_reducible refine stop_update ?_) | (with_reducible refine stop_delete ?_) | (with_reducible refine stop_arr ?_) | (with_reducible refine stop_idx ?_) | (with_reducible refine stop_conv (e := 26) (f := 9) ?_) | ((with_reducible refine stopg_box ?hw ?_); case hw => rfl) | ((with_reducible refine stopg_alloc ?hw ?_); case hw => rfl) | ((with_reducible refine stopg_load ?hw ?_); case hw => rfl) | ((with_reducible refine stopg_store ?hw ?_); case hw => rfl) | ((with_reducible refine stopg_make ?hw ?_); case hw => rfl) | ((with_reducible refine stopg_lit ?hw ?_); case hw => rfl) | ((with_reducible refine stopg_append ?hw ?_); case hw => rfl) | ((with_reducible refine stopg_copy ?hw ?_); case hw => rfl) | ((with_reducible refine stopg_map ?hw ?_); case hw => rfl) | ((with_reducible refine stopg_lookup ?hw ?_); case hw => rfl) | ((with_reducible refine stopg_update ?hw ?_); case hw => rfl) | ((with_reducible refine stopg_delete ?hw ?_); case hw => rfl) | ((with_reducible refine stopg_arr ?hw ?_); case hw => rfl) | ((with_reducible refine stopg_conv (e := 26) (f := 9) ?hw ?_); case hw => rfl) | ((with_reducible refine stopg_idx ?hw ?_); case hw => rfl))
  refine (awake_calls w).mono ?_
  rintro e w1 ⟨rfl, k1⟩
  go_wp2_with (first | (with_reducible refine stop_box ?_) | (with_reducible refine stop_alloc ?_) | (with_reducible refine stop_load ?_) | (with_reducible refine stop_store ?_) | (with_reducible refine stop_make ?_) | (with_reducible refine stop_lit ?_) | (with_reducible refine stop_append ?_) | (with_reducible refine stop_copy ?_) | (with_reducible refine stop_map ?_) | (with_reducible refine stop_lookup ?_) | (with_reducible refine stop_update ?_) | (with_reducible refine stop_delete ?_) | (with_reducible refine stop_arr ?_) | (with_reducible refine stop_idx ?_) | (with_reducible refine stop_conv (e := 26) (f := 9) ?_) | ((with_reducible refine stopg_box ?hw ?_); case hw => rfl) | ((with_reducible refine stopg_alloc ?hw ?_); case hw => rfl) | ((with_reducible refine stopg_load ?hw ?_); case hw => rfl) | ((with_reducible refine stopg_store ?hw ?_); case hw => rfl) | ((with_reducible refine stopg_make ?hw ?_); case hw => rfl) | ((with_reducible refine stopg_lit ?hw ?_); case hw => rfl) | ((with_reducible refine stopg_append ?hw ?_); case hw => rfl) | ((with_reducible refine stopg_copy ?hw ?_); case hw => rfl) | ((with_reducible refine stopg_map ?hw ?_); case hw => rfl) | ((with_reducible refine stopg_lookup ?hw ?_); case hw => rfl) | ((with_reducible refine stopg_update ?hw ?_); case hw => rfl) | ((with_reducible refine stopg_delete ?hw ?_); case hw => rfl) | ((with_reducible refine stopg_arr ?hw ?_); case hw => rfl) | ((with_reducible refine stopg_conv (e := 26) (f := 9) ?hw ?_); case hw => rfl) | ((with_reducible refine stopg_idx ?hw ?_); case hw => rfl))
  refine (light_calls a v0 w1 (ra.keep k1) na ba'.out).mono ?_
  rintro e w2 ⟨rfl, k2⟩
  go_wp2_with (first | (with_reducible refine stop_box ?_) | (with_reducible refine stop_alloc ?_) | (with_reducible refine stop_load ?_) | (with_reducible refine stop_store ?_) | (with_reducible refine stop_make ?_) | (with_reducible refine stop_lit ?_) | (with_reducible refine stop_append ?_) | (with_reducible refine stop_copy ?_) | (with_reducible refine stop_map ?_) | (with_reducible refine stop_lookup ?_) | (with_reducible refine stop_update ?_) | (with_reducible refine stop_delete ?_) | (with_reducible refine stop_arr ?_) | (with_reducible refine stop_idx ?_) | (with_reducible refine stop_conv (e := 26) (f := 9) ?_) | ((with_reducible refine stopg_box ?hw ?_); case hw => rfl) | ((with_reducible refine stopg_alloc ?hw ?_); case hw => rfl) | ((with_reducible refine stopg_load ?hw ?_); case hw => rfl) | ((with_reducible refine stopg_store ?hw ?_); case hw => rfl) | ((with_reducible refine stopg_make ?hw ?_); case hw => rfl) | ((with_reducible refine stopg_lit ?hw ?_); case hw => rfl) | ((with_reducible refine stopg_append ?hw ?_); case hw => rfl) | ((with_reducible refine stopg_copy ?hw ?_); case hw => rfl) | ((with_reducible refine stopg_map ?hw ?_); case hw => rfl) | ((with_reducible refine stopg_lookup ?hw ?_); case hw => rfl) | ((with_reducible refine stopg_update ?hw ?_); case hw => rfl) | ((with_reducible refine stopg_delete ?hw ?_); case hw => rfl) | ((with_reducible refine stopg_arr ?hw ?_); case hw => rfl) | ((with_reducible refine stopg_conv (e := 26) (f := 9) ?hw ?_); case hw => rfl) | ((with_reducible refine stopg_idx ?hw ?_); case hw => rfl))
  refine (light_calls b v1 w2 (rb.keep (k1.trans k2)) nb bb'.out).mono ?_
  rintro e w3 ⟨rfl, k3⟩
  have k := (k1.trans k2).trans k3
  clear k1 k2 k3
  by_cases hl : lightB a = true ∧ lightB b = true
  · obtain ⟨la, lb⟩ := hl
    have ja := Lib.hid (light_join la)
    have jb := Lib.hid (light_join lb)
    have na60 : a.length ≤ 60 := ja.out.1
    have nb60 : b.length ≤ 60 := jb.out.1
    have H3 := H.keep k
    go_wp2_with (first | (with_reducible refine stop_box ?_) | (with_reducible refine stop_alloc ?_) | (with_reducible refine stop_load ?_) | (with_reducible refine stop_store ?_) | (with_reducible refine stop_make ?_) | (with_reducible refine stop_lit ?_) | (with_reducible refine stop_append ?_) | (with_reducible refine stop_copy ?_) | (with_reducible refine stop_map ?_) | (with_reducible refine stop_lookup ?_) | (with_reducible refine stop_update ?_) | (with_reducible refine stop_delete ?_) | (with_reducible refine stop_arr ?_) | (with_reducible refine stop_idx ?_) | (with_reducible refine stop_conv (e := 26) (f := 9) ?_) | ((with_reducible refine stopg_box ?hw ?_); case hw => rfl) | ((with_reducible refine stopg_alloc ?hw ?_); case hw => rfl) | ((with_reducible refine stopg_load ?hw ?_); case hw => rfl) | ((with_reducible refine stopg_store ?hw ?_); case hw => rfl) | ((with_reducible refine stopg_make ?hw ?_); case hw => rfl) | ((with_reducible refine stopg_lit ?hw ?_); case hw => rfl) | ((with_reducible refine stopg_append ?hw ?_); case hw => rfl) | ((with_reducible refine stopg_copy ?hw ?_); case hw => rfl) | ((with_reducible refine stopg_map ?hw ?_); case hw => rfl) | ((with_reducible refine stopg_lookup ?hw ?_); case hw => rfl) | ((with_reducible refine stopg_update ?hw ?_); case hw => rfl) | ((with_reducible refine stopg_delete ?hw ?_); case hw => rfl) | ((with_reducible refine stopg_arr ?hw ?_); case hw => rfl) | ((with_reducible refine stopg_conv (e := 26) (f := 9) ?hw ?_); case hw => rfl) | ((with_reducible refine stopg_idx ?hw ?_); case hw => rfl))
    refine wpl_want rfl (opw_lit1 [] H3 Try.underlying22 rowsinfo (by omega) rfl rfl (by simp) ?_)
    intro w4 x4 H4
    obtain ⟨A, c, va, rfl, hc, hA, hla, hva⟩ := ra
    obtain ⟨B, d, vb, rfl, hd, hB, hlb, hvb⟩ := rb
    have hva' := Lib.hid hva
    have hvb' := Lib.hid hvb
    have hla' := Lib.hid hla
    have hlb' := Lib.hid hlb
    clear hva hvb hla hlb
    have one : ∀ (vs : List Value) (ls : List (List UInt8)), vs.length = ls.length → (∀ (i : Nat) (u : Value) (l : List UInt8), vs[i]? = some u → ls[i]? = some l → BsAt w u l) → ∀ u ∈ vs, u.oneCell' = true := by
      intro vs ls hl hb u hu
      obtain ⟨i, hi⟩ := List.mem_iff_getElem?.1 hu
      have hil := (List.getElem?_eq_some_iff.1 hi).1
      obtain ⟨A1, c1, rfl, _⟩ := hb i u _ hi (List.getElem?_eq_getElem (by omega))
      rfl
    have one' := Lib.hid one
    clear one
    go_wp2_with (first | (with_reducible refine stop_box ?_) | (with_reducible refine stop_alloc ?_) | (with_reducible refine stop_load ?_) | (with_reducible refine stop_store ?_) | (with_reducible refine stop_make ?_) | (with_reducible refine stop_lit ?_) | (with_reducible refine stop_append ?_) | (with_reducible refine stop_copy ?_) | (with_reducible refine stop_map ?_) | (with_reducible refine stop_lookup ?_) | (with_reducible refine stop_update ?_) | (with_reducible refine stop_delete ?_) | (with_reducible refine stop_arr ?_) | (with_reducible refine stop_idx ?_) | (with_reducible refine stop_conv (e := 26) (f := 9) ?_) | ((with_reducible refine stopg_box ?hw ?_); case hw => rfl) | ((with_reducible refine stopg_alloc ?hw ?_); case hw => rfl) | ((with_reducible refine stopg_load ?hw ?_); case hw => rfl) | ((with_reducible refine stopg_store ?hw ?_); case hw => rfl) | ((with_reducible refine stopg_make ?hw ?_); case hw => rfl) | ((with_reducible refine stopg_lit ?hw ?_); case hw => rfl) | ((with_reducible refine stopg_append ?hw ?_); case hw => rfl) | ((with_reducible refine stopg_copy ?hw ?_); case hw => rfl) | ((with_reducible refine stopg_map ?hw ?_); case hw => rfl) | ((with_reducible refine stopg_lookup ?hw ?_); case hw => rfl) | ((with_reducible refine stopg_update ?hw ?_); case hw => rfl) | ((with_reducible refine stopg_delete ?hw ?_); case hw => rfl) | ((with_reducible refine stopg_arr ?hw ?_); case hw => rfl) | ((with_reducible refine stopg_conv (e := 26) (f := 9) ?hw ?_); case hw => rfl) | ((with_reducible refine stopg_idx ?hw ?_); case hw => rfl))
    refine wpl_want rfl (opw_append (k := 0) (m := a.length) H4 rfl Try.underlying22 Try.underlying22 rowsinfo rfl (by omega) rfl rfl (H4.sl0 hA) (by have := hla'.out; omega) (one'.out va a hla'.out hva'.out) (by omega) (by omega) ?_)
    intro w5 v5 H5
    go_wp2_with (first | (with_reducible refine stop_box ?_) | (with_reducible refine stop_alloc ?_) | (with_reducible refine stop_load ?_) | (with_reducible refine stop_store ?_) | (with_reducible refine stop_make ?_) | (with_reducible refine stop_lit ?_) | (with_reducible refine stop_append ?_) | (with_reducible refine stop_copy ?_) | (with_reducible refine stop_map ?_) | (with_reducible refine stop_lookup ?_) | (with_reducible refine stop_update ?_) | (with_reducible refine stop_delete ?_) | (with_reducible refine stop_arr ?_) | (with_reducible refine stop_idx ?_) | (with_reducible refine stop_conv (e := 26) (f := 9) ?_) | ((with_reducible refine stopg_box ?hw ?_); case hw => rfl) | ((with_reducible refine stopg_alloc ?hw ?_); case hw => rfl) | ((with_reducible refine stopg_load ?hw ?_); case hw => rfl) | ((with_reducible refine stopg_store ?hw ?_); case hw => rfl) | ((with_reducible refine stopg_make ?hw ?_); case hw => rfl) | ((with_reducible refine stopg_lit ?hw ?_); case hw => rfl) | ((with_reducible refine stopg_append ?hw ?_); case hw => rfl) | ((with_reducible refine stopg_copy ?hw ?_); case hw => rfl) | ((with_reducible refine stopg_map ?hw ?_); case hw => rfl) | ((with_reducible refine stopg_lookup ?hw ?_); case hw => rfl) | ((with_reducible refine stopg_update ?hw ?_); case hw => rfl) | ((with_reducible refine stopg_delete ?hw ?_); case hw => rfl) | ((with_reducible refine stopg_arr ?hw ?_); case hw => rfl) | ((with_reducible refine stopg_conv (e := 26) (f := 9) ?hw ?_); case hw => rfl) | ((with_reducible refine stopg_idx ?hw ?_); case hw => rfl))
    refine wpl_want rfl (opw_append (k := 0) (m := b.length) H5 rfl Try.underlying22 Try.underlying22 rowsinfo rfl (by omega) rfl rfl (H5.sl0 hB) (by have := hlb'.out; omega) (one'.out vb b hlb'.out hvb'.out) (by omega) (by omega) ?_)
    intro w6 v6 H6
    have r6 : RowsAt w6 v6 (a ++ b) := by
      obtain ⟨A6, c6, rfl, hc6, _, hA6⟩ := (H6.get (k := 0) rfl).slice
      refine ⟨A6, c6, va ++ vb, by simp, by simpa using hc6, by simpa [fillL] using hA6, by simp [hla'.out, hlb'.out], fun i u l hu hl' => ?_⟩
      have h1 := hla'.out
      by_cases hi : i < va.length
      · rw [List.getElem?_append_left hi] at hu
        rw [List.getElem?_append_left (by omega)] at hl'
        exact (hva'.out i u l hu hl').keep H6.kept
      · rw [List.getElem?_append_right (by omega)] at hu
        rw [List.getElem?_append_right (by omega), ← h1] at hl'
        exact (hvb'.out _ u l hu hl').keep H6.kept
    have ra : RowsAt w (.slice A a.length c) a := ⟨A, c, va, rfl, hc, hA, hla'.out, hva'.out⟩
    have rb : RowsAt w (.slice B b.length d) b := ⟨B, d, vb, rfl, hd, hB, hlb'.out, hvb'.out⟩
    have ja' : Hid ((joinB (a ++ b)).length ≤ 40000 ∧ (a ++ b).length ≤ 120) := by
      show _ ∧ _
      rw [joinB_append, List.length_append, List.length_append]
      have h1 := ja.out
      have h2 := jb.out
      omega
    have k6 := H6.kept
    clear H3 H4 H5 k
    go_wp2_with (first | (with_reducible refine stop_box ?_) | (with_reducible refine stop_alloc ?_) | (with_reducible refine stop_load ?_) | (with_reducible refine stop_store ?_) | (with_reducible refine stop_make ?_) | (with_reducible refine stop_lit ?_) | (with_reducible refine stop_append ?_) | (with_reducible refine stop_copy ?_) | (with_reducible refine stop_map ?_) | (with_reducible refine stop_lookup ?_) | (with_reducible refine stop_update ?_) | (with_reducible refine stop_delete ?_) | (with_reducible refine stop_arr ?_) | (with_reducible refine stop_idx ?_) | (with_reducible refine stop_conv (e := 26) (f := 9) ?_) | ((with_reducible refine stopg_box ?hw ?_); case hw => rfl) | ((with_reducible refine stopg_alloc ?hw ?_); case hw => rfl) | ((with_reducible refine stopg_load ?hw ?_); case hw => rfl) | ((with_reducible refine stopg_store ?hw ?_); case hw => rfl) | ((with_reducible refine stopg_make ?hw ?_); case hw => rfl) | ((with_reducible refine stopg_lit ?hw ?_); case hw => rfl) | ((with_reducible refine stopg_append ?hw ?_); case hw => rfl) | ((with_reducible refine stopg_copy ?hw ?_); case hw => rfl) | ((with_reducible refine stopg_map ?hw ?_); case hw => rfl) | ((with_reducible refine stopg_lookup ?hw ?_); case hw => rfl) | ((with_reducible refine stopg_update ?hw ?_); case hw => rfl) | ((with_reducible refine stopg_delete ?hw ?_); case hw => rfl) | ((with_reducible refine stopg_arr ?hw ?_); case hw => rfl) | ((with_reducible refine stopg_conv (e := 26) (f := 9) ?hw ?_); case hw => rfl) | ((with_reducible refine stopg_idx ?hw ?_); case hw => rfl))
    refine wp_region_all (n := 46) (fun w' => Kept [] w w' ∧ Kept [] w6 w') (regF [fun v _ => v = .bool true, fun v _ => v = .bool true, fun v _ => v = v6, fun v w' => BsAt w' v (joinB (a ++ b)), fun v _ => v = .string ⟨(joinB (a ++ b)).toArray⟩, fun v _ => v = .slice A a.length c, fun v w' => BsAt w' v (joinB a), fun v _ => v = .string ⟨(joinB a).toArray⟩, fun v _ => v = .slice B b.length d, fun v w' => BsAt w' v (joinB b), fun v _ => v = .string ⟨(joinB b).toArray⟩, fun v _ => v = .string ⟨(joinB (a ++ b)).toArray⟩, fun v _ => v = .bool true, fun v _ => v = .bool true, fun v _ => v = .bool true, fun v w' => ∃ b, v = .slice (some ⟨b, 0, none⟩) 1 1 ∧ SlAt w' (some ⟨b, 0, none⟩) [.slice none 0 0], fun v w' => BsAt w' v [0, 0, 0, 0], fun v _ => v = .int .i64 4, fun v _ => v = .bool true, fun v _ => v = .bool true, fun v _ => v = .bool true]) [[], [(26, 0)], [(27, 1)], [(28, 2), (27, 1)], [(29, 3), (27, 1)], [(27, 1)], [(31, 5), (29, 3), (27, 1)], [(32, 6), (27, 1)], [(27, 1)], [(34, 8), (32, 6), (27, 1)], [(35, 9), (27, 1)], [(33, 7), (36, 10), (27, 1)], [(30, 4), (37, 11), (27, 1)], [(27, 1), (38, 12)], [(39, 13), (35, 9)], [(40, 14)], [(41, 15), (40, 14)], [(42, 16), (40, 14)], [(43, 17), (40, 14)], [(40, 14), (44, 18)], [(45, 19), (42, 16), (26, 0), (27, 1), (28, 2), (29, 3), (30, 4), (31, 5), (32, 6), (33, 7), (34, 8), (35, 9), (36, 10), (37, 11), (38, 12), (39, 13), (40, 14), (41, 15), (43, 17), (44, 18)]] [(26, 0), (27, 1), (28, 2), (29, 3), (30, 4), (31, 5), (32, 6), (33, 7), (34, 8), (35, 9), (36, 10), (37, 11), (38, 12), (39, 13), (40, 14), (41, 15), (42, 16), (43, 17), (44, 18), (45, 19), (4, 20)] (by kernel_rfl) (by kernel_rfl) rfl ⟨k6.drew, (Kept.refl _ _).drew⟩ (regF_stable ⟨Stable.eq _, Stable.eq _, Stable.eq _, (fun _ _ hK _ h => BsAt.keep h hK), Stable.eq _, Stable.eq _, (fun _ _ hK _ h => BsAt.keep h hK), Stable.eq _, Stable.eq _, (fun _ _ hK _ h => BsAt.keep h hK), Stable.eq _, Stable.eq _, Stable.eq _, Stable.eq _, Stable.eq _, (fun _ _ hK _ h => by obtain ⟨b, e, s⟩ := h; exact ⟨b, e, s.keep hK⟩), (fun _ _ hK _ h => BsAt.keep h hK), Stable.eq _, Stable.eq _, Stable.eq _, Stable.eq _, trivial⟩) ⟨?_, ?_, ?_, ?_, ?_, ?_, ?_, ?_, ?_, ?_, ?_, ?_, ?_, ?_, ?_, ?_, ?_, ?_, ?_, ?_, ?_, trivial⟩ ?_
    · intro vx w9 hC hF
      clear hF
      refine .inl ⟨trivial, ?_⟩
      simp only [putsOf]
      exact opw_val (v := .bool true) (w' := w9) (by go_simp <;> (simp only [IntKind.wrap_u64, IntKind.wrap_i64] <;> omega)) ⟨_, rfl, by simp, hC, (Kept.refl _ _), rfl⟩
    · intro vx w9 hC hF
      have q0 : (vx 0) = .bool true := hF (26, 0) (by simp)
      clear hF
      refine .inl ⟨trivial, ?_⟩
      simp only [putsOf, q0]
      exact opw_val (v := .bool true) (w' := w9) (by go_simp <;> (simp only [IntKind.wrap_u64, IntKind.wrap_i64] <;> omega)) ⟨_, rfl, by simp, hC, (Kept.refl _ _), rfl⟩
    · intro vx w9 hC hF
      have q1 : (vx 1) = .bool true := hF (27, 1) (by simp)
      clear hF
      refine .inl ⟨⟨q1, rfl⟩, ?_⟩
      simp only [putsOf, q1]
      exact opw_val (v := v6) (w' := w9) (by go_simp <;> (simp only [IntKind.wrap_u64, IntKind.wrap_i64] <;> omega)) ⟨_, rfl, by simp, hC, (Kept.refl _ _), rfl⟩
    · intro vx w9 hC hF
      have q2 : (vx 2) = v6 := hF (28, 2) (by simp)
      have q1 : (vx 1) = .bool true := hF (27, 1) (by simp)
      clear hF
      refine .inl ⟨⟨q1, rfl⟩, ?_⟩
      simp only [putsOf, q2, q1]
      refine opw_call [v6] Try.func12 rfl (by kernel_rfl) rfl ?_
      refine (join_calls (a ++ b) v6 w9 (r6.keep hC.2) (by have := ja'.out; omega) (by have := ja'.out; omega)).mono ?_
      rintro e w1 ⟨v, rfl, H1⟩
      exact ⟨_, rfl, _, rfl, by simp, ⟨hC.1.trans H1.kept, hC.2.trans H1.kept⟩, H1.kept, Row.bs (H1.get (k := 0) rfl)⟩
    · intro vx w9 hC hF
      have q3 : BsAt w9 (vx 3) (joinB (a ++ b)) := hF (29, 3) (by simp)
      obtain ⟨A3, c3, e3, l3, s3⟩ := q3
      have q1 : (vx 1) = .bool true := hF (27, 1) (by simp)
      clear hF
      refine .inl ⟨⟨q1, rfl⟩, ?_⟩
      simp only [putsOf, e3, q1]
      exact opw_str (l := joinB (a ++ b)) Try.underlying26 Try.underlying5 Try.underlying9 rfl (s3) rfl ⟨_, rfl, by simp, hC, Kept.refl _ _, rfl⟩
    · intro vx w9 hC hF
      have q1 : (vx 1) = .bool true := hF (27, 1) (by simp)
      clear hF
      refine .inl ⟨⟨q1, rfl⟩, ?_⟩
      simp only [putsOf, q1]
      exact opw_val (v := .slice A a.length c) (w' := w9) (by go_simp <;> (simp only [IntKind.wrap_u64, IntKind.wrap_i64] <;> omega)) ⟨_, rfl, by simp, hC, (Kept.refl _ _), rfl⟩
    · intro vx w9 hC hF
      have q5 : (vx 5) = .slice A a.length c := hF (31, 5) (by simp)
      have q3 : BsAt w9 (vx 3) (joinB (a ++ b)) := hF (29, 3) (by simp)
      obtain ⟨A3, c3, e3, l3, s3⟩ := q3
      have q1 : (vx 1) = .bool true := hF (27, 1) (by simp)
      clear hF
      refine .inl ⟨⟨q1, rfl⟩, ?_⟩
      simp only [putsOf, q5, e3, q1]
      refine opw_call [.slice A a.length c] Try.func12 rfl (by kernel_rfl) rfl ?_
      refine (join_calls a _ w9 (ra.keep hC.1) (by have := ja.out; omega) (by have := ja.out; omega)).mono ?_
      rintro e w1 ⟨v, rfl, H1⟩
      exact ⟨_, rfl, _, rfl, by simp, ⟨hC.1.trans H1.kept, hC.2.trans H1.kept⟩, H1.kept, Row.bs (H1.get (k := 0) rfl)⟩
    · intro vx w9 hC hF
      have q6 : BsAt w9 (vx 6) (joinB a) := hF (32, 6) (by simp)
      obtain ⟨A6, c6, e6, l6, s6⟩ := q6
      have q1 : (vx 1) = .bool true := hF (27, 1) (by simp)
      clear hF
      refine .inl ⟨⟨q1, rfl⟩, ?_⟩
      simp only [putsOf, e6, q1]
      exact opw_str (l := joinB a) Try.underlying26 Try.underlying5 Try.underlying9 rfl (s6) rfl ⟨_, rfl, by simp, hC, Kept.refl _ _, rfl⟩
    · intro vx w9 hC hF
      have q1 : (vx 1) = .bool true := hF (27, 1) (by simp)
      clear hF
      refine .inl ⟨⟨q1, rfl⟩, ?_⟩
      simp only [putsOf, q1]
      exact opw_val (v := .slice B b.length d) (w' := w9) (by go_simp <;> (simp only [IntKind.wrap_u64, IntKind.wrap_i64] <;> omega)) ⟨_, rfl, by simp, hC, (Kept.refl _ _), rfl⟩
    · intro vx w9 hC hF
      have q8 : (vx 8) = .slice B b.length d := hF (34, 8) (by simp)
      have q6 : BsAt w9 (vx 6) (joinB a) := hF (32, 6) (by simp)
      obtain ⟨A6, c6, e6, l6, s6⟩ := q6
      have q1 : (vx 1) = .bool true := hF (27, 1) (by simp)
      clear hF
      refine .inl ⟨⟨q1, rfl⟩, ?_⟩
      simp only [putsOf, q8, e6, q1]
      refine opw_call [.slice B b.length d] Try.func12 rfl (by kernel_rfl) rfl ?_
      refine (join_calls b _ w9 (rb.keep hC.1) (by have := jb.out; omega) (by have := jb.out; omega)).mono ?_
      rintro e w1 ⟨v, rfl, H1⟩
      exact ⟨_, rfl, _, rfl, by simp, ⟨hC.1.trans H1.kept, hC.2.trans H1.kept⟩, H1.kept, Row.bs (H1.get (k := 0) rfl)⟩
    · intro vx w9 hC hF
      have q9 : BsAt w9 (vx 9) (joinB b) := hF (35, 9) (by simp)
      obtain ⟨A9, c9, e9, l9, s9⟩ := q9
      have q1 : (vx 1) = .bool true := hF (27, 1) (by simp)
      clear hF
      refine .inl ⟨⟨q1, rfl⟩, ?_⟩
      simp only [putsOf, e9, q1]
      exact opw_str (l := joinB b) Try.underlying26 Try.underlying5 Try.underlying9 rfl (s9) rfl ⟨_, rfl, by simp, hC, Kept.refl _ _, rfl⟩
    · intro vx w9 hC hF
      have q7 : (vx 7) = .string ⟨(joinB a).toArray⟩ := hF (33, 7) (by simp)
      have q10 : (vx 10) = .string ⟨(joinB b).toArray⟩ := hF (36, 10) (by simp)
      have q1 : (vx 1) = .bool true := hF (27, 1) (by simp)
      clear hF
      refine .inl ⟨⟨q1, rfl⟩, ?_⟩
      simp only [putsOf, q7, q10, q1]
      rw [joinB_append]
      have hj1 := ja.out
      have hj2 := jb.out
      exact opw_val (v := .string ⟨(joinB a ++ joinB b).toArray⟩) (w' := w9) (by go_simp; rw [if_neg (by omega)]; congr 3) ⟨_, rfl, by simp, hC, Kept.refl _ _, rfl⟩
    · intro vx w9 hC hF
      have q4 : (vx 4) = .string ⟨(joinB (a ++ b)).toArray⟩ := hF (30, 4) (by simp)
      have q11 : (vx 11) = .string ⟨(joinB (a ++ b)).toArray⟩ := hF (37, 11) (by simp)
      have q1 : (vx 1) = .bool true := hF (27, 1) (by simp)
      clear hF
      refine .inl ⟨⟨q1, rfl⟩, ?_⟩
      simp only [putsOf, q4, q11, q1]
      exact opw_val (v := .bool true) (w' := w9) (by go_simp <;> (simp only [IntKind.wrap_u64, IntKind.wrap_i64] <;> omega)) ⟨_, rfl, by simp, hC, (Kept.refl _ _), rfl⟩
    · intro vx w9 hC hF
      have q1 : (vx 1) = .bool true := hF (27, 1) (by simp)
      have q12 : (vx 12) = .bool true := hF (38, 12) (by simp)
      clear hF
      refine .inl ⟨trivial, ?_⟩
      simp only [putsOf, q1, q12]
      exact opw_val (v := .bool true) (w' := w9) (by go_simp <;> (simp only [IntKind.wrap_u64, IntKind.wrap_i64] <;> omega)) ⟨_, rfl, by simp, hC, (Kept.refl _ _), rfl⟩
    · intro vx w9 hC hF
      have q13 : (vx 13) = .bool true := hF (39, 13) (by simp)
      have q9 : BsAt w9 (vx 9) (joinB b) := hF (35, 9) (by simp)
      obtain ⟨A9, c9, e9, l9, s9⟩ := q9
      clear hF
      refine .inl ⟨trivial, ?_⟩
      simp only [putsOf, q13, e9]
      exact opw_val (v := .bool true) (w' := w9) (by go_simp <;> (simp only [IntKind.wrap_u64, IntKind.wrap_i64] <;> omega)) ⟨_, rfl, by simp, hC, (Kept.refl _ _), rfl⟩
    · intro vx w9 hC hF
      have q14 : (vx 14) = .bool true := hF (40, 14) (by simp)
      clear hF
      refine .inl ⟨⟨q14, rfl⟩, ?_⟩
      simp only [putsOf, q14]
      refine opw_lit1 [(0, .slice none 0 0)] (St.refl w9) Try.underlying22 rowsinfo (by omega) rfl rfl (by simp [Value.oneCell']) ?_
      intro w1 b1 H1
      exact ⟨_, rfl, by simp, ⟨hC.1.trans H1.kept, hC.2.trans H1.kept⟩, H1.kept, b1, rfl, Row.sl (H1.get (k := 0) rfl)⟩
    · intro vx w9 hC hF
      have q15 : ∃ b, (vx 15) = .slice (some ⟨b, 0, none⟩) 1 1 ∧ SlAt w9 (some ⟨b, 0, none⟩) [.slice none 0 0] := hF (41, 15) (by simp)
      obtain ⟨b15, e15, s15⟩ := q15
      have q14 : (vx 14) = .bool true := hF (40, 14) (by simp)
      clear hF
      refine .inl ⟨⟨q14, rfl⟩, ?_⟩
      simp only [putsOf, e15, q14]
      refine opw_call [.slice (some ⟨b15, 0, none⟩) 1 1] Try.func12 rfl (by kernel_rfl) rfl ?_
      have r15 : RowsAt w9 (.slice (some ⟨b15, 0, none⟩) 1 1) [[]] := ⟨_, _, _, rfl, Nat.le_refl _, s15, rfl, fun i u l hu hl' => by
        obtain rfl : i = 0 := by have := (List.getElem?_eq_some_iff.1 hu).1; simp at this; exact this
        simp at hu hl'; subst hu; subst hl'; exact ⟨none, 0, rfl, Nat.le_refl _, SlAt.nil _ _⟩⟩
      refine (join_calls [[]] _ w9 r15 (by rw [octetsGrow.one]; simp) (by simp)).mono ?_
      rintro e w1 ⟨v, rfl, H1⟩
      rw [octetsGrow.one] at H1
      exact ⟨_, rfl, _, rfl, by simp, ⟨hC.1.trans H1.kept, hC.2.trans H1.kept⟩, H1.kept, Row.bs (H1.get (k := 0) rfl)⟩
    · intro vx w9 hC hF
      have q16 : BsAt w9 (vx 16) [0, 0, 0, 0] := hF (42, 16) (by simp)
      obtain ⟨A16, c16, e16, l16, s16⟩ := q16
      have q14 : (vx 14) = .bool true := hF (40, 14) (by simp)
      clear hF
      refine .inl ⟨⟨q14, rfl⟩, ?_⟩
      simp only [putsOf, e16, q14]
      exact opw_val (v := .int .i64 4) (w' := w9) (by go_simp <;> (simp only [IntKind.wrap_u64, IntKind.wrap_i64] <;> omega)) ⟨_, rfl, by simp, hC, (Kept.refl _ _), rfl⟩
    · intro vx w9 hC hF
      have q17 : (vx 17) = .int .i64 4 := hF (43, 17) (by simp)
      have q14 : (vx 14) = .bool true := hF (40, 14) (by simp)
      clear hF
      refine .inl ⟨⟨q14, rfl⟩, ?_⟩
      simp only [putsOf, q17, q14]
      exact opw_val (v := .bool true) (w' := w9) (by go_simp <;> (simp only [IntKind.wrap_u64, IntKind.wrap_i64] <;> omega)) ⟨_, rfl, by simp, hC, (Kept.refl _ _), rfl⟩
    · intro vx w9 hC hF
      have q14 : (vx 14) = .bool true := hF (40, 14) (by simp)
      have q18 : (vx 18) = .bool true := hF (44, 18) (by simp)
      clear hF
      refine .inl ⟨trivial, ?_⟩
      simp only [putsOf, q14, q18]
      exact opw_val (v := .bool true) (w' := w9) (by go_simp <;> (simp only [IntKind.wrap_u64, IntKind.wrap_i64] <;> omega)) ⟨_, rfl, by simp, hC, (Kept.refl _ _), rfl⟩
    · intro vx w9 hC hF
      have q19 : (vx 19) = .bool true := hF (45, 19) (by simp)
      have q16 : BsAt w9 (vx 16) [0, 0, 0, 0] := hF (42, 16) (by simp)
      obtain ⟨A16, c16, e16, l16, s16⟩ := q16
      have q0 : (vx 0) = .bool true := hF (26, 0) (by simp)
      have q1 : (vx 1) = .bool true := hF (27, 1) (by simp)
      have q2 : (vx 2) = v6 := hF (28, 2) (by simp)
      have q3 : BsAt w9 (vx 3) (joinB (a ++ b)) := hF (29, 3) (by simp)
      obtain ⟨A3, c3, e3, l3, s3⟩ := q3
      have q4 : (vx 4) = .string ⟨(joinB (a ++ b)).toArray⟩ := hF (30, 4) (by simp)
      have q5 : (vx 5) = .slice A a.length c := hF (31, 5) (by simp)
      have q6 : BsAt w9 (vx 6) (joinB a) := hF (32, 6) (by simp)
      obtain ⟨A6, c6, e6, l6, s6⟩ := q6
      have q7 : (vx 7) = .string ⟨(joinB a).toArray⟩ := hF (33, 7) (by simp)
      have q8 : (vx 8) = .slice B b.length d := hF (34, 8) (by simp)
      have q9 : BsAt w9 (vx 9) (joinB b) := hF (35, 9) (by simp)
      obtain ⟨A9, c9, e9, l9, s9⟩ := q9
      have q10 : (vx 10) = .string ⟨(joinB b).toArray⟩ := hF (36, 10) (by simp)
      have q11 : (vx 11) = .string ⟨(joinB (a ++ b)).toArray⟩ := hF (37, 11) (by simp)
      have q12 : (vx 12) = .bool true := hF (38, 12) (by simp)
      have q13 : (vx 13) = .bool true := hF (39, 13) (by simp)
      have q14 : (vx 14) = .bool true := hF (40, 14) (by simp)
      have q15 : ∃ b, (vx 15) = .slice (some ⟨b, 0, none⟩) 1 1 ∧ SlAt w9 (some ⟨b, 0, none⟩) [.slice none 0 0] := hF (41, 15) (by simp)
      obtain ⟨b15, e15, s15⟩ := q15
      have q17 : (vx 17) = .int .i64 4 := hF (43, 17) (by simp)
      have q18 : (vx 18) = .bool true := hF (44, 18) (by simp)
      clear hF
      refine .inl ⟨trivial, ?_⟩
      simp only [putsOf, q19, e16, q0, q1, q2, e3, q4, q5, e6, q7, q8, e9, q10, q11, q12, q13, q14, e15, q17, q18]
      exact opw_val (v := .bool true) (w' := w9) (by go_simp <;> (simp only [IntKind.wrap_u64, IntKind.wrap_i64] <;> omega)) ⟨_, rfl, by simp, hC, (Kept.refl _ _), rfl⟩
    intro vx w9 hC hF
    have q0 : (vx 0) = .bool true := hF 0 (by simp)
    have q1 : (vx 1) = .bool true := hF 1 (by simp)
    have q2 : (vx 2) = v6 := hF 2 (by simp)
    have q3 : BsAt w9 (vx 3) (joinB (a ++ b)) := hF 3 (by simp)
    obtain ⟨A3, c3, e3, l3, s3⟩ := q3
    have q4 : (vx 4) = .string ⟨(joinB (a ++ b)).toArray⟩ := hF 4 (by simp)
    have q5 : (vx 5) = .slice A a.length c := hF 5 (by simp)
    have q6 : BsAt w9 (vx 6) (joinB a) := hF 6 (by simp)
    obtain ⟨A6, c6, e6, l6, s6⟩ := q6
    have q7 : (vx 7) = .string ⟨(joinB a).toArray⟩ := hF 7 (by simp)
    have q8 : (vx 8) = .slice B b.length d := hF 8 (by simp)
    have q9 : BsAt w9 (vx 9) (joinB b) := hF 9 (by simp)
    obtain ⟨A9, c9, e9, l9, s9⟩ := q9
    have q10 : (vx 10) = .string ⟨(joinB b).toArray⟩ := hF 10 (by simp)
    have q11 : (vx 11) = .string ⟨(joinB (a ++ b)).toArray⟩ := hF 11 (by simp)
    have q12 : (vx 12) = .bool true := hF 12 (by simp)
    have q13 : (vx 13) = .bool true := hF 13 (by simp)
    have q14 : (vx 14) = .bool true := hF 14 (by simp)
    have q15 : ∃ b, (vx 15) = .slice (some ⟨b, 0, none⟩) 1 1 ∧ SlAt w9 (some ⟨b, 0, none⟩) [.slice none 0 0] := hF 15 (by simp)
    obtain ⟨b15, e15, s15⟩ := q15
    have q16 : BsAt w9 (vx 16) [0, 0, 0, 0] := hF 16 (by simp)
    obtain ⟨A16, c16, e16, l16, s16⟩ := q16
    have q17 : (vx 17) = .int .i64 4 := hF 17 (by simp)
    have q18 : (vx 18) = .bool true := hF 18 (by simp)
    have q19 : (vx 19) = .bool true := hF 19 (by simp)
    have q20 : (vx 20) = .bool true := hF 20 (by simp)
    clear hF
    simp only [putsOf, q0, q1, q2, e3, q4, q5, e6, q7, q8, e9, q10, q11, q12, q13, q14, e15, e16, q17, q18, q19, q20]
    simp only [Act.put, List.setIfInBounds_toArray, List.set_cons_succ, List.set_cons_zero]
    clear q0 q1 q2 q4 q5 q7 q8 q10 q11 q12 q13 q14 q17 q18 q19 q20
    go_wp2_with (first | (with_reducible refine stop_box ?_) | (with_reducible refine stop_alloc ?_) | (with_reducible refine stop_load ?_) | (with_reducible refine stop_store ?_) | (with_reducible refine stop_make ?_) | (with_reducible refine stop_lit ?_) | (with_reducible refine stop_append ?_) | (with_reducible refine stop_copy ?_) | (with_reducible refine stop_map ?_) | (with_reducible refine stop_lookup ?_) | (with_reducible refine stop_update ?_) | (with_reducible refine stop_delete ?_) | (with_reducible refine stop_arr ?_) | (with_reducible refine stop_idx ?_) | (with_reducible refine stop_conv (e := 26) (f := 9) ?_) | ((with_reducible refine stopg_box ?hw ?_); case hw => rfl) | ((with_reducible refine stopg_alloc ?hw ?_); case hw => rfl) | ((with_reducible refine stopg_load ?hw ?_); case hw => rfl) | ((with_reducible refine stopg_store ?hw ?_); case hw => rfl) | ((with_reducible refine stopg_make ?hw ?_); case hw => rfl) | ((with_reducible refine stopg_lit ?hw ?_); case hw => rfl) | ((with_reducible refine stopg_append ?hw ?_); case hw => rfl) | ((with_reducible refine stopg_copy ?hw ?_); case hw => rfl) | ((with_reducible refine stopg_map ?hw ?_); case hw => rfl) | ((with_reducible refine stopg_lookup ?hw ?_); case hw => rfl) | ((with_reducible refine stopg_update ?hw ?_); case hw => rfl) | ((with_reducible refine stopg_delete ?hw ?_); case hw => rfl) | ((with_reducible refine stopg_arr ?hw ?_); case hw => rfl) | ((with_reducible refine stopg_conv (e := 26) (f := 9) ?hw ?_); case hw => rfl) | ((with_reducible refine stopg_idx ?hw ?_); case hw => rfl))
    go_ret
    exact ⟨rfl, hC.1⟩
  · have hl' : (!lightB a || !lightB b) = true := by
      cases ha : lightB a <;> cases hb : lightB b <;> simp_all
    cases ha : lightB a <;> cases hb : lightB b <;> rw [ha, hb] at hl' <;> clear hl
    all_goals first
      | (simp at hl'; done)
      | (clear hl'
         go_wp2_with (first | (with_reducible refine stop_box ?_) | (with_reducible refine stop_alloc ?_) | (with_reducible refine stop_load ?_) | (with_reducible refine stop_store ?_) | (with_reducible refine stop_make ?_) | (with_reducible refine stop_lit ?_) | (with_reducible refine stop_append ?_) | (with_reducible refine stop_copy ?_) | (with_reducible refine stop_map ?_) | (with_reducible refine stop_lookup ?_) | (with_reducible refine stop_update ?_) | (with_reducible refine stop_delete ?_) | (with_reducible refine stop_arr ?_) | (with_reducible refine stop_idx ?_) | (with_reducible refine stop_conv (e := 26) (f := 9) ?_) | ((with_reducible refine stopg_box ?hw ?_); case hw => rfl) | ((with_reducible refine stopg_alloc ?hw ?_); case hw => rfl) | ((with_reducible refine stopg_load ?hw ?_); case hw => rfl) | ((with_reducible refine stopg_store ?hw ?_); case hw => rfl) | ((with_reducible refine stopg_make ?hw ?_); case hw => rfl) | ((with_reducible refine stopg_lit ?hw ?_); case hw => rfl) | ((with_reducible refine stopg_append ?hw ?_); case hw => rfl) | ((with_reducible refine stopg_copy ?hw ?_); case hw => rfl) | ((with_reducible refine stopg_map ?hw ?_); case hw => rfl) | ((with_reducible refine stopg_lookup ?hw ?_); case hw => rfl) | ((with_reducible refine stopg_update ?hw ?_); case hw => rfl) | ((with_reducible refine stopg_delete ?hw ?_); case hw => rfl) | ((with_reducible refine stopg_arr ?hw ?_); case hw => rfl) | ((with_reducible refine stopg_conv (e := 26) (f := 9) ?hw ?_); case hw => rfl) | ((with_reducible refine stopg_idx ?hw ?_); case hw => rfl))
         go_ret
         exact ⟨rfl, k⟩)

namespace octetsGrow
open Go.ChangeShapes Go.WideShapes Go.ChangeAt Go.RowKit
theorem own : ownKnob Try.prog.godebug = none := by kernel_rfl
theorem laidOut : laidOutB Try.prog = true := by kernel_rfl
set_option maxRecDepth 100000 in
theorem lifted (os : Os) (started : os.Started) (H : Type) (enc : TypeId × Value → H) :
    ReturnsInHanded {} Try.checked os 4 .any (Rows.octetsGrowSpec.pre6 enc Try.prog Try.f4 Rows.octetsGrowRow.domain false) (Rows.octetsGrowSpec.post enc Try.prog Try.f4 false true false false) := by
  refine returnsInHanded_of_change (C := Try.checked) own started (by kernel_rfl) Try.func4
    (ChangeSpec.witness6 (enc := enc) (C := Try.checked) false ⟨#[], #[.slice none 0 0, .slice none 0 0], []⟩ 8 (by kernel_rfl) (by kernel_rfl) (by kernel_rfl) (by kernel_rfl)) ?_
  intro W base args ds gs before hval0 hW hcnd _
  have hval : ∀ (j : Nat) t v, Try.f4.params[j]? = some t → args[j]? = some v → Value.okWide Try.prog W .any base t v := hval0
  have hW' := hW
  obtain ⟨p, q, hA0, hV, rfl, hfz, hnd⟩ := hW
  have hA : DataW.TrodAll enc Try.prog W 0 (fun _ => true) true Try.f4.params.toList args.toList ds p := hA0
  rw [Try.params4] at hA hval
  obtain ⟨v0, vs0, d0, ds0, p0, q0, hargs, rfl, rfl, h0, r0⟩ := trodAll_cons hA
  obtain ⟨v1, vs1, d1, ds1, p1, q1, rfl, rfl, rfl, h1, r1⟩ := trodAll_cons r0
  obtain ⟨rfl, rfl, rfl⟩ := trodAll_nil r1
  obtain rfl : args = #[v0, v1] := by cases args; simp_all
  obtain ⟨rfl, rfl⟩ := trodVars_none hV
  have k0 := h0
  have lt0 : ∀ x ∈ p0, x.block < W.heap.size := by obtain ⟨m, hm⟩ := k0; exact DataW.trod_lt m _ _ _ hm
  have k1 := h1
  have lt1 : ∀ x ∈ p1, x.block < W.heap.size := by obtain ⟨m, hm⟩ := k1; exact DataW.trod_lt m _ _ _ hm
  obtain ⟨l0, g0⟩ := open_rows8 Try.underlying22 Try.underlying26 Try.underlying5 (by kernel_rfl) (by kernel_rfl) (hval 0 22 v0 rfl rfl) h0
  obtain ⟨l1, g1⟩ := open_rows8 Try.underlying22 Try.underlying26 Try.underlying5 (by kernel_rfl) (by kernel_rfl) (hval 1 22 v1 rfl rfl) h1
  clear hA0 hval0
  refine (octetsGrow.walk W v0 l0 g0 v1 l1 g1).mono fun e W' ⟨he, hK⟩ => ?_
  subst he
  have bel := hK.below
  exact ⟨_, rfl, _, _, _, [], _, [], hW', trodAll_mk1 (shut_bool Try.underlying4 _), (trodAll_cons_mk (Below.trod laidOut (by kernel_rfl) (of_decide_eq_true (by kernel_rfl)) k0 bel lt0) (trodAll_cons_mk (Below.trod laidOut (by kernel_rfl) (of_decide_eq_true (by kernel_rfl)) k1 bel lt1) trodAll_mk0)), rfl, bel.frame _, fun h => by cases h⟩
theorem over : Rows.octetsGrowRow.holds Try.pinned (OpenSpec.ofChange Rows.octetsGrowSpec) :=
  OpenClaim.holds_of_wide 4 Try.f4 rfl rfl rfl rfl rfl rfl rfl ⟨rfl, rfl, rfl, rfl, rfl⟩ rfl rfl rfl rfl rfl (by kernel_rfl) Try.func4 (by kernel_rfl)
    (of_decide_eq_true (by kernel_rfl)) (by unfold Func.isWrapper; first | (rw [if_pos (by decide +kernel)]; kernel_rfl) | (rw [if_neg (by decide +kernel)]; exact ⟨rfl, rfl⟩))
    (fun os started H enc _ => lifted os started H enc)
theorem proved : Rows.OctetsGrowSaid := over
end octetsGrow
/-- The row. -/
theorem octetsGrow_holds : Rows.OctetsGrowSaid := octetsGrow.proved
#print axioms octetsGrow_holds
end Go.Proofs.Ythdendffngihbaa
