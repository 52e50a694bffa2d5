/- What the store of kept keys does: the place of a key. No condition. -/
import Derived.Test.YtngdppffcdhhlaaProg
import Derived.Test.YtngdppffcdhhlaaS11
import Derived.Test.YtngdppffcdhhlaaPR
import Derived.StillTailTactics
namespace Go.Proofs.Ytngdppffcdhhlaa
open Go.RowKit Go.PBYtngdppffcdhhlaa
set_option linter.unusedVariables false
set_option linter.unusedSimpArgs false
set_option maxRecDepth 10000

theorem laid11 : laidOutB Try.prog = true := by kernel_rfl
theorem flatOf : Flat Try.prog 51 ofKinds :=
  flat_of (m := 3) laid11 (by omega) (of_decide_eq_true (by kernel_rfl)) (by kernel_rfl) (by kernel_rfl) (by kernel_rfl) (by kernel_rfl) (by kernel_rfl) (by kernel_rfl)
theorem flatKey : Flat Try.prog 23 (List.replicate 32 .u8) :=
  flat_of (m := 3) laid11 (by omega) (of_decide_eq_true (by kernel_rfl)) (by kernel_rfl) (by kernel_rfl) (by kernel_rfl) (by kernel_rfl) (by kernel_rfl) (by kernel_rfl)
theorem ofSize : (Try.prog.info? 51).map (·.size) = some 33 := by kernel_rfl
theorem keySize : (Try.prog.info? 23).map (·.size) = some 32 := by kernel_rfl

set_option maxHeartbeats 800000 in
theorem index_calls (L : List Ent) (j : Nat) (e : Ent) (hj : L[j]? = some e) (hG : GoodL L) (hn : L.length ≤ 1000000) (A : Option Addr) (c : Nat) (w : World) (hA : SlAt w A (ordC L)) (hc : L.length ≤ c) :
    Calls Try.prog 20 #[.slice A L.length c, .agg e.kc.toArray] w fun r w' => r = .returned (.int .i64 j) ∧ Kept [] w w' := by
  have H := St.refl w
  have hj' := Lib.hid hj
  have hG' := Lib.hid hG
  have hjl : j < L.length := (List.getElem?_eq_some_iff.1 hj).1
  have hem : Hid (e ∈ L) := List.mem_of_getElem? hj
  obtain ⟨ad, rfl⟩ : ∃ ad, A = some ad := by
    have := ordC_length hG.ok
    obtain ⟨a, ha, _⟩ := hA 0 _ (List.getElem?_eq_getElem (show 0 < (ordC L).length by omega))
    exact ⟨a, ha⟩
  clear hj hG
  go_enter Try.func20, Try.ntmps20
  go_wp2_with (first | (with_reducible refine stop_box ?_) | (with_reducible refine stop_alloc ?_) | (with_reducible refine stop_load ?_) | (with_reducible refine stop_store ?_) | (with_reducible refine stop_make ?_) | (with_reducible refine stop_lit ?_) | (with_reducible refine stop_append ?_) | (with_reducible refine stop_copy ?_) | (with_reducible refine stop_map ?_) | (with_reducible refine stop_lookup ?_) | (with_reducible refine stop_update ?_) | (with_reducible refine stop_delete ?_) | (with_reducible refine stop_clear ?_) | (with_reducible refine stop_arr ?_) | (with_reducible refine stop_idx ?_) | ((with_reducible refine stopg_box ?hw ?_); case hw => rfl) | ((with_reducible refine stopg_alloc ?hw ?_); case hw => rfl) | ((with_reducible refine stopg_load ?hw ?_); case hw => rfl) | ((with_reducible refine stopg_store ?hw ?_); case hw => rfl) | ((with_reducible refine stopg_make ?hw ?_); case hw => rfl) | ((with_reducible refine stopg_lit ?hw ?_); case hw => rfl) | ((with_reducible refine stopg_append ?hw ?_); case hw => rfl) | ((with_reducible refine stopg_copy ?hw ?_); case hw => rfl) | ((with_reducible refine stopg_map ?hw ?_); case hw => rfl) | ((with_reducible refine stopg_lookup ?hw ?_); case hw => rfl) | ((with_reducible refine stopg_update ?hw ?_); case hw => rfl) | ((with_reducible refine stopg_delete ?hw ?_); case hw => rfl) | ((with_reducible refine stopg_clear ?hw ?_); case hw => rfl) | ((with_reducible refine stopg_arr ?hw ?_); case hw => rfl) | ((with_reducible refine stopg_idx ?hw ?_); case hw => rfl))
  refine wpl_want rfl (opw_box (c := e.kc) H rfl ?_)
  intro w1 b H1
  go_wp2_with (first | (with_reducible refine stop_box ?_) | (with_reducible refine stop_alloc ?_) | (with_reducible refine stop_load ?_) | (with_reducible refine stop_store ?_) | (with_reducible refine stop_make ?_) | (with_reducible refine stop_lit ?_) | (with_reducible refine stop_append ?_) | (with_reducible refine stop_copy ?_) | (with_reducible refine stop_map ?_) | (with_reducible refine stop_lookup ?_) | (with_reducible refine stop_update ?_) | (with_reducible refine stop_delete ?_) | (with_reducible refine stop_clear ?_) | (with_reducible refine stop_arr ?_) | (with_reducible refine stop_idx ?_) | ((with_reducible refine stopg_box ?hw ?_); case hw => rfl) | ((with_reducible refine stopg_alloc ?hw ?_); case hw => rfl) | ((with_reducible refine stopg_load ?hw ?_); case hw => rfl) | ((with_reducible refine stopg_store ?hw ?_); case hw => rfl) | ((with_reducible refine stopg_make ?hw ?_); case hw => rfl) | ((with_reducible refine stopg_lit ?hw ?_); case hw => rfl) | ((with_reducible refine stopg_append ?hw ?_); case hw => rfl) | ((with_reducible refine stopg_copy ?hw ?_); case hw => rfl) | ((with_reducible refine stopg_map ?hw ?_); case hw => rfl) | ((with_reducible refine stopg_lookup ?hw ?_); case hw => rfl) | ((with_reducible refine stopg_update ?hw ?_); case hw => rfl) | ((with_reducible refine stopg_delete ?hw ?_); case hw => rfl) | ((with_reducible refine stopg_clear ?hw ?_); case hw => rfl) | ((with_reducible refine stopg_arr ?hw ?_); case hw => rfl) | ((with_reducible refine stopg_idx ?hw ?_); case hw => rfl))
  go_loopw [5, 8] (fun u i wr => ∃ k : Nat, k ≤ j ∧ i = .int .i64 k ∧ St [] w [.blk b 51 e.kc] wr) (fun _ i _ => j - (intOf i).toNat)
  case atStart => exact ⟨0, by omega, rfl, H1⟩
  case round =>
    obtain ⟨k, hk, rfl, Hr⟩ := hrel
    obtain ⟨x, hx⟩ : ∃ x, L[k]? = some x := ⟨_, List.getElem?_eq_getElem (by omega)⟩
    have hxm : Hid (x ∈ L) := List.mem_of_getElem? hx
    have hpart : Hid (((ordC L).drop (k * 33)).take 33 = x.kc) := ordC_part hG'.out.ok hx
    have hx' := Lib.hid hx
    clear hx
    obtain ⟨r, hr⟩ : ∃ r : Bool, Hid (r = true ↔ e.key = x.key) := ⟨decide (e.key = x.key), decide_eq_true_iff⟩
    have hkl : decide ((k : Int) < (L.length : Int)) = true := by simp; omega
    go_wp2_with (first | (with_reducible refine stop_box ?_) | (with_reducible refine stop_alloc ?_) | (with_reducible refine stop_load ?_) | (with_reducible refine stop_store ?_) | (with_reducible refine stop_make ?_) | (with_reducible refine stop_lit ?_) | (with_reducible refine stop_append ?_) | (with_reducible refine stop_copy ?_) | (with_reducible refine stop_map ?_) | (with_reducible refine stop_lookup ?_) | (with_reducible refine stop_update ?_) | (with_reducible refine stop_delete ?_) | (with_reducible refine stop_clear ?_) | (with_reducible refine stop_arr ?_) | (with_reducible refine stop_idx ?_) | ((with_reducible refine stopg_box ?hw ?_); case hw => rfl) | ((with_reducible refine stopg_alloc ?hw ?_); case hw => rfl) | ((with_reducible refine stopg_load ?hw ?_); case hw => rfl) | ((with_reducible refine stopg_store ?hw ?_); case hw => rfl) | ((with_reducible refine stopg_make ?hw ?_); case hw => rfl) | ((with_reducible refine stopg_lit ?hw ?_); case hw => rfl) | ((with_reducible refine stopg_append ?hw ?_); case hw => rfl) | ((with_reducible refine stopg_copy ?hw ?_); case hw => rfl) | ((with_reducible refine stopg_map ?hw ?_); case hw => rfl) | ((with_reducible refine stopg_lookup ?hw ?_); case hw => rfl) | ((with_reducible refine stopg_update ?hw ?_); case hw => rfl) | ((with_reducible refine stopg_delete ?hw ?_); case hw => rfl) | ((with_reducible refine stopg_clear ?hw ?_); case hw => rfl) | ((with_reducible refine stopg_arr ?hw ?_); case hw => rfl) | ((with_reducible refine stopg_idx ?hw ?_); case hw => rfl))
    refine wp_region_all (n := 19) (fun w' => St [] w [.blk b 51 e.kc] w') (regF [fun v _ => v = .agg e.kc.toArray, fun v _ => v = .slice (some ad) L.length c, fun v _ => v = .int .i64 k, fun v _ => v = .pointer (some (ad.add (k * 33))), fun v _ => v = .agg x.kc.toArray, fun v _ => v = .bool r]) [[], [], [], [(12, 1), (13, 2)], [(14, 3)], [(11, 0), (15, 4)]] [(11, 0), (12, 1), (13, 2), (14, 3), (15, 4), (16, 5)] (by kernel_rfl) (by kernel_rfl) rfl Hr.drew (regF_stable ⟨Stable.eq _, Stable.eq _, Stable.eq _, Stable.eq _, Stable.eq _, Stable.eq _, trivial⟩) ⟨?_, ?_, ?_, ?_, ?_, ?_, trivial⟩ ?_
    · intro vx w9 hC hF
      clear hF
      refine .inl ⟨trivial, ?_⟩
      simp only [putsOf]
      exact opw_loads (c := e.kc) Try.underlying51 rfl (by rw [ofSize, Ent.kc, kc_length (hG'.out.ok e hem.out).p]) rfl (Blk.sl0 (hC.blk (k := 0) rfl)) ⟨_, rfl, by simp, hC, Kept.refl _ _, rfl⟩
    · intro vx w9 hC hF
      clear hF
      refine .inl ⟨trivial, ?_⟩
      simp only [putsOf]
      exact opw_val (v := .slice (some ad) L.length c) (w' := w9) (by go_simp <;> (simp only [IntKind.wrap_u64, IntKind.wrap_i64] <;> omega)) ⟨_, rfl, by simp, hC, (Kept.refl _ _), rfl⟩
    · intro vx w9 hC hF
      clear hF
      refine .inl ⟨trivial, ?_⟩
      simp only [putsOf]
      exact opw_val (v := .int .i64 k) (w' := w9) (by go_simp <;> (simp only [IntKind.wrap_u64, IntKind.wrap_i64] <;> omega)) ⟨_, rfl, by simp, hC, (Kept.refl _ _), rfl⟩
    · intro vx w9 hC hF
      have q1 : (vx 1) = .slice (some ad) L.length c := hF (12, 1) (by simp)
      have q2 : (vx 2) = .int .i64 k := hF (13, 2) (by simp)
      clear hF
      refine .inl ⟨trivial, ?_⟩
      simp only [putsOf, q1, q2]
      exact opw_val (v := .pointer (some (ad.add (k * 33)))) (w' := w9) (by go_simp <;> (simp only [IntKind.wrap_u64, IntKind.wrap_i64] <;> omega)) ⟨_, rfl, by simp, hC, (Kept.refl _ _), rfl⟩
    · intro vx w9 hC hF
      have q3 : (vx 3) = .pointer (some (ad.add (k * 33))) := hF (14, 3) (by simp)
      clear hF
      refine .inl ⟨trivial, ?_⟩
      simp only [putsOf, q3]
      exact opw_loads (c := x.kc) Try.underlying51 rfl (by rw [ofSize, Ent.kc, kc_length (hG'.out.ok x hxm.out).p]) rfl (by rw [← hpart.out]; exact ((hA.keep hC.kept).drop (k * 33)).take 33) ⟨_, rfl, by simp, hC, Kept.refl _ _, rfl⟩
    · intro vx w9 hC hF
      have q0 : (vx 0) = .agg e.kc.toArray := hF (11, 0) (by simp)
      have q4 : (vx 4) = .agg x.kc.toArray := hF (15, 4) (by simp)
      clear hF
      refine .inl ⟨trivial, ?_⟩
      simp only [putsOf, q0, q4]
      exact opw_eqA flatOf rfl rfl (fits_kc (hG'.out.ok e hem.out).p (hG'.out.ok e hem.out).n) (fits_kc (hG'.out.ok x hxm.out).p (hG'.out.ok x hxm.out).n) (hr.out.trans ⟨fun h => by unfold Ent.kc; rw [h], fun h => kc_inj h⟩) ⟨_, rfl, by simp, hC, Kept.refl _ _, rfl⟩
    intro vx w9 hC hF
    have q0 : (vx 0) = .agg e.kc.toArray := hF 0 (by simp)
    have q1 : (vx 1) = .slice (some ad) L.length c := hF 1 (by simp)
    have q2 : (vx 2) = .int .i64 k := hF 2 (by simp)
    have q3 : (vx 3) = .pointer (some (ad.add (k * 33))) := hF 3 (by simp)
    have q4 : (vx 4) = .agg x.kc.toArray := hF 4 (by simp)
    have q5 : (vx 5) = .bool r := hF 5 (by simp)
    clear hF
    simp only [putsOf, q0, q1, q2, q3, q4, q5]
    simp only [Act.put, List.setIfInBounds_toArray, List.set_cons_succ, List.set_cons_zero]
    clear q0 q1 q2 q3 q4 q5
    by_cases hkj : k = j
    · subst hkj
      have : x = e := by
        have h1 := hx'.out
        rw [hj'.out] at h1
        exact (Option.some.inj h1).symm
      subst this
      obtain rfl : r = true := hr.out.2 rfl
      go_wp2_with (first | (with_reducible refine stop_box ?_) | (with_reducible refine stop_alloc ?_) | (with_reducible refine stop_load ?_) | (with_reducible refine stop_store ?_) | (with_reducible refine stop_make ?_) | (with_reducible refine stop_lit ?_) | (with_reducible refine stop_append ?_) | (with_reducible refine stop_copy ?_) | (with_reducible refine stop_map ?_) | (with_reducible refine stop_lookup ?_) | (with_reducible refine stop_update ?_) | (with_reducible refine stop_delete ?_) | (with_reducible refine stop_clear ?_) | (with_reducible refine stop_arr ?_) | (with_reducible refine stop_idx ?_) | ((with_reducible refine stopg_box ?hw ?_); case hw => rfl) | ((with_reducible refine stopg_alloc ?hw ?_); case hw => rfl) | ((with_reducible refine stopg_load ?hw ?_); case hw => rfl) | ((with_reducible refine stopg_store ?hw ?_); case hw => rfl) | ((with_reducible refine stopg_make ?hw ?_); case hw => rfl) | ((with_reducible refine stopg_lit ?hw ?_); case hw => rfl) | ((with_reducible refine stopg_append ?hw ?_); case hw => rfl) | ((with_reducible refine stopg_copy ?hw ?_); case hw => rfl) | ((with_reducible refine stopg_map ?hw ?_); case hw => rfl) | ((with_reducible refine stopg_lookup ?hw ?_); case hw => rfl) | ((with_reducible refine stopg_update ?hw ?_); case hw => rfl) | ((with_reducible refine stopg_delete ?hw ?_); case hw => rfl) | ((with_reducible refine stopg_clear ?hw ?_); case hw => rfl) | ((with_reducible refine stopg_arr ?hw ?_); case hw => rfl) | ((with_reducible refine stopg_idx ?hw ?_); case hw => rfl))
      go_ret
      exact ⟨rfl, hC.kept⟩
    · have hne : r = false := by
        rw [← Bool.not_eq_true, hr.out]
        intro h
        have hnd := hG'.out.keys
        have h1 : (L.map Ent.key)[k]? = some x.key := by rw [List.getElem?_map, hx'.out]; rfl
        have h2 : (L.map Ent.key)[j]? = some e.key := by rw [List.getElem?_map, hj'.out]; rfl
        rw [h] at h2
        have hk1 : k < (L.map Ent.key).length := by simp; omega
        exact hkj ((List.getElem?_inj hk1 hnd).1 (h1.trans h2.symm))
      subst hne
      go_wp2_with (first | (with_reducible refine stop_box ?_) | (with_reducible refine stop_alloc ?_) | (with_reducible refine stop_load ?_) | (with_reducible refine stop_store ?_) | (with_reducible refine stop_make ?_) | (with_reducible refine stop_lit ?_) | (with_reducible refine stop_append ?_) | (with_reducible refine stop_copy ?_) | (with_reducible refine stop_map ?_) | (with_reducible refine stop_lookup ?_) | (with_reducible refine stop_update ?_) | (with_reducible refine stop_delete ?_) | (with_reducible refine stop_clear ?_) | (with_reducible refine stop_arr ?_) | (with_reducible refine stop_idx ?_) | ((with_reducible refine stopg_box ?hw ?_); case hw => rfl) | ((with_reducible refine stopg_alloc ?hw ?_); case hw => rfl) | ((with_reducible refine stopg_load ?hw ?_); case hw => rfl) | ((with_reducible refine stopg_store ?hw ?_); case hw => rfl) | ((with_reducible refine stopg_make ?hw ?_); case hw => rfl) | ((with_reducible refine stopg_lit ?hw ?_); case hw => rfl) | ((with_reducible refine stopg_append ?hw ?_); case hw => rfl) | ((with_reducible refine stopg_copy ?hw ?_); case hw => rfl) | ((with_reducible refine stopg_map ?hw ?_); case hw => rfl) | ((with_reducible refine stopg_lookup ?hw ?_); case hw => rfl) | ((with_reducible refine stopg_update ?hw ?_); case hw => rfl) | ((with_reducible refine stopg_delete ?hw ?_); case hw => rfl) | ((with_reducible refine stopg_clear ?hw ?_); case hw => rfl) | ((with_reducible refine stopg_arr ?hw ?_); case hw => rfl) | ((with_reducible refine stopg_idx ?hw ?_); case hw => rfl))
      exact ⟨⟨k + 1, by omega, by go_num, hC⟩, by simp [intOf]; omega⟩
end Go.Proofs.Ytngdppffcdhhlaa
