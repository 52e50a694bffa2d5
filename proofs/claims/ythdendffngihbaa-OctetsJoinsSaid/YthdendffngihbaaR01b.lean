/- What Light, High, Join and Part of palfreyref01 do, and the seat's awake. Conditions: lengths that memory bears. -/
import Derived.Test.YthdendffngihbaaR01
namespace Go.Proofs.Ythdendffngihbaa
open Go.RowKit Go.PBYthdendffngihbaa
set_option linter.unusedVariables false
set_option maxRecDepth 10000
set_option linter.unusedSimpArgs false

set_option maxHeartbeats 400000 in
theorem light_calls (ls : List (List UInt8)) (v0 : Value) (w : World) (hv : RowsAt w v0 ls) (hn : ls.length ≤ 9223372036854775807) (hb : ∀ b ∈ ls, b.length ≤ 9223372036854775807) :
    Calls Try.prog 10 #[v0] w fun e w' => e = .returned (.bool (lightB ls)) ∧ Kept [] w w' := by
  obtain ⟨A, c, vs, rfl, hc, hA, hvl, hvs⟩ := hv
  have hvl' := Lib.hid hvl
  have hvs' := Lib.hid hvs
  have hb' := Lib.hid hb
  clear hvl hvs hb
  go_enter Try.func10, Try.ntmps10
  go_wp2_with (first | (with_reducible refine stop_box ?_) | (with_reducible refine stop_alloc ?_) | (with_reducible refine stop_load ?_) | (with_reducible refine stop_store ?_) | (with_reducible refine stop_make ?_) | (with_reducible refine stop_lit ?_) | (with_reducible refine stop_append ?_) | (with_reducible refine stop_copy ?_) | (with_reducible refine stop_map ?_) | (with_reducible refine stop_lookup ?_) | (with_reducible refine stop_update ?_) | (with_reducible refine stop_delete ?_) | (with_reducible refine stop_arr ?_) | (with_reducible refine stop_idx ?_) | (with_reducible refine stop_conv (e := 26) (f := 9) ?_) | ((with_reducible refine stopg_box ?hw ?_); case hw => rfl) | ((with_reducible refine stopg_alloc ?hw ?_); case hw => rfl) | ((with_reducible refine stopg_load ?hw ?_); case hw => rfl) | ((with_reducible refine stopg_store ?hw ?_); case hw => rfl) | ((with_reducible refine stopg_make ?hw ?_); case hw => rfl) | ((with_reducible refine stopg_lit ?hw ?_); case hw => rfl) | ((with_reducible refine stopg_append ?hw ?_); case hw => rfl) | ((with_reducible refine stopg_copy ?hw ?_); case hw => rfl) | ((with_reducible refine stopg_map ?hw ?_); case hw => rfl) | ((with_reducible refine stopg_lookup ?hw ?_); case hw => rfl) | ((with_reducible refine stopg_update ?hw ?_); case hw => rfl) | ((with_reducible refine stopg_delete ?hw ?_); case hw => rfl) | ((with_reducible refine stopg_arr ?hw ?_); case hw => rfl) | ((with_reducible refine stopg_conv (e := 26) (f := 9) ?hw ?_); case hw => rfl) | ((with_reducible refine stopg_idx ?hw ?_); case hw => rfl))
  go_loopw [3, 4] (fun n i wr => ∃ (k m : Nat), k ≤ ls.length ∧ k ≤ 100 ∧ i = .int .i64 k ∧ n = .int .i64 m ∧ Hid (m = weight (ls.take k)) ∧ Kept [] w wr) (fun _ i _ => 100 - (intOf i).toNat)
  case atStart => exact ⟨0, 0, Nat.zero_le _, Nat.zero_le _, rfl, rfl, rfl, Kept.refl _ _⟩
  case round =>
    obtain ⟨k, m, hk, hk1, rfl, rfl, hm, hK⟩ := hrel
    have hm1 : m ≤ 1000000 := by
      have := weight_le (ls.take k)
      rw [← hm.out, List.length_take] at this
      omega
    have out : ∀ wr, Kept [] w wr → (k = ls.length ∨ k = 100) → (lightB ls = (decide ((ls.length : Int) ≤ 60) && decide ((m : Int) < 10000))) := by
      intro wr _ h
      unfold lightB
      have e : ls.take k = ls.take 100 := by
        rcases h with h | h
        · rw [h, List.take_length, List.take_of_length_le (by omega)]
        · rw [h]
      rw [hm.out, e]
      rw [Bool.eq_iff_iff]
      simp only [Bool.and_eq_true, decide_eq_true_eq]
      omega
    have out' := Lib.hid out
    clear out
    by_cases hlt : k < ls.length
    · by_cases h100 : k < 100
      · obtain ⟨b, hx⟩ : ∃ x, ls[k]? = some x := ⟨_, List.getElem?_eq_getElem (by omega)⟩
        obtain ⟨u, hu⟩ : ∃ x, vs[k]? = some x := ⟨_, List.getElem?_eq_getElem (by have := hvl'.out; omega)⟩
        obtain ⟨ad, rfl, hcell⟩ := (hA.keep hK) k _ hu
        obtain ⟨B, d, rfl, hd, hB⟩ := hvs'.out k u b hu hx
        have hmin : (if 10000 < (b.length : Int) then 10000 else (b.length : Int)) = ((min b.length 10000 : Nat) : Int) := by split <;> omega
        have hbl := hb'.out b (List.mem_of_getElem? hx)
        have hsn : Hid (weight (ls.take (k + 1)) = weight (ls.take k) + min b.length 10000) := by
          show _ = _
          rw [List.take_add_one, hx]
          exact weight_snoc _ _
        clear hx hu
        have hq10 : min b.length 10000 ≤ 10000 := by omega
        generalize min b.length 10000 = q at *
        go_wp2_with (first | (with_reducible refine stop_box ?_) | (with_reducible refine stop_alloc ?_) | (with_reducible refine stop_load ?_) | (with_reducible refine stop_store ?_) | (with_reducible refine stop_make ?_) | (with_reducible refine stop_lit ?_) | (with_reducible refine stop_append ?_) | (with_reducible refine stop_copy ?_) | (with_reducible refine stop_map ?_) | (with_reducible refine stop_lookup ?_) | (with_reducible refine stop_update ?_) | (with_reducible refine stop_delete ?_) | (with_reducible refine stop_arr ?_) | (with_reducible refine stop_idx ?_) | (with_reducible refine stop_conv (e := 26) (f := 9) ?_) | ((with_reducible refine stopg_box ?hw ?_); case hw => rfl) | ((with_reducible refine stopg_alloc ?hw ?_); case hw => rfl) | ((with_reducible refine stopg_load ?hw ?_); case hw => rfl) | ((with_reducible refine stopg_store ?hw ?_); case hw => rfl) | ((with_reducible refine stopg_make ?hw ?_); case hw => rfl) | ((with_reducible refine stopg_lit ?hw ?_); case hw => rfl) | ((with_reducible refine stopg_append ?hw ?_); case hw => rfl) | ((with_reducible refine stopg_copy ?hw ?_); case hw => rfl) | ((with_reducible refine stopg_map ?hw ?_); case hw => rfl) | ((with_reducible refine stopg_lookup ?hw ?_); case hw => rfl) | ((with_reducible refine stopg_update ?hw ?_); case hw => rfl) | ((with_reducible refine stopg_delete ?hw ?_); case hw => rfl) | ((with_reducible refine stopg_arr ?hw ?_); case hw => rfl) | ((with_reducible refine stopg_conv (e := 26) (f := 9) ?hw ?_); case hw => rfl) | ((with_reducible refine stopg_idx ?hw ?_); case hw => rfl))
        refine wpl_want rfl (opw_load Try.underlying26 rfl rfl hcell ?_)
        clear hcell
        go_wp2_with (first | (with_reducible refine stop_box ?_) | (with_reducible refine stop_alloc ?_) | (with_reducible refine stop_load ?_) | (with_reducible refine stop_store ?_) | (with_reducible refine stop_make ?_) | (with_reducible refine stop_lit ?_) | (with_reducible refine stop_append ?_) | (with_reducible refine stop_copy ?_) | (with_reducible refine stop_map ?_) | (with_reducible refine stop_lookup ?_) | (with_reducible refine stop_update ?_) | (with_reducible refine stop_delete ?_) | (with_reducible refine stop_arr ?_) | (with_reducible refine stop_idx ?_) | (with_reducible refine stop_conv (e := 26) (f := 9) ?_) | ((with_reducible refine stopg_box ?hw ?_); case hw => rfl) | ((with_reducible refine stopg_alloc ?hw ?_); case hw => rfl) | ((with_reducible refine stopg_load ?hw ?_); case hw => rfl) | ((with_reducible refine stopg_store ?hw ?_); case hw => rfl) | ((with_reducible refine stopg_make ?hw ?_); case hw => rfl) | ((with_reducible refine stopg_lit ?hw ?_); case hw => rfl) | ((with_reducible refine stopg_append ?hw ?_); case hw => rfl) | ((with_reducible refine stopg_copy ?hw ?_); case hw => rfl) | ((with_reducible refine stopg_map ?hw ?_); case hw => rfl) | ((with_reducible refine stopg_lookup ?hw ?_); case hw => rfl) | ((with_reducible refine stopg_update ?hw ?_); case hw => rfl) | ((with_reducible refine stopg_delete ?hw ?_); case hw => rfl) | ((with_reducible refine stopg_arr ?hw ?_); case hw => rfl) | ((with_reducible refine stopg_conv (e := 26) (f := 9) ?hw ?_); case hw => rfl) | ((with_reducible refine stopg_idx ?hw ?_); case hw => rfl))
        exact ⟨⟨k + 1, m + q, by omega, by omega, by go_num, by go_num, by show _ = _; rw [hsn.out, hm.out], hK⟩, by simp [intOf]; omega⟩
      · have h8' : decide ((k : Int) < 100) = false := by simp; omega
        by_cases h60 : (ls.length : Int) ≤ 60
        · omega
        · have h60' : decide ((ls.length : Int) ≤ 60) = false := by simp; omega
          go_wp2_with (first | (with_reducible refine stop_box ?_) | (with_reducible refine stop_alloc ?_) | (with_reducible refine stop_load ?_) | (with_reducible refine stop_store ?_) | (with_reducible refine stop_make ?_) | (with_reducible refine stop_lit ?_) | (with_reducible refine stop_append ?_) | (with_reducible refine stop_copy ?_) | (with_reducible refine stop_map ?_) | (with_reducible refine stop_lookup ?_) | (with_reducible refine stop_update ?_) | (with_reducible refine stop_delete ?_) | (with_reducible refine stop_arr ?_) | (with_reducible refine stop_idx ?_) | (with_reducible refine stop_conv (e := 26) (f := 9) ?_) | ((with_reducible refine stopg_box ?hw ?_); case hw => rfl) | ((with_reducible refine stopg_alloc ?hw ?_); case hw => rfl) | ((with_reducible refine stopg_load ?hw ?_); case hw => rfl) | ((with_reducible refine stopg_store ?hw ?_); case hw => rfl) | ((with_reducible refine stopg_make ?hw ?_); case hw => rfl) | ((with_reducible refine stopg_lit ?hw ?_); case hw => rfl) | ((with_reducible refine stopg_append ?hw ?_); case hw => rfl) | ((with_reducible refine stopg_copy ?hw ?_); case hw => rfl) | ((with_reducible refine stopg_map ?hw ?_); case hw => rfl) | ((with_reducible refine stopg_lookup ?hw ?_); case hw => rfl) | ((with_reducible refine stopg_update ?hw ?_); case hw => rfl) | ((with_reducible refine stopg_delete ?hw ?_); case hw => rfl) | ((with_reducible refine stopg_arr ?hw ?_); case hw => rfl) | ((with_reducible refine stopg_conv (e := 26) (f := 9) ?hw ?_); case hw => rfl) | ((with_reducible refine stopg_idx ?hw ?_); case hw => rfl))
          go_ret
          refine ⟨?_, hK⟩
          rw [out'.out _ hK (.inr (by omega)), h60']
          rfl
    · by_cases h60 : (ls.length : Int) ≤ 60
      · go_wp2_with (first | (with_reducible refine stop_box ?_) | (with_reducible refine stop_alloc ?_) | (with_reducible refine stop_load ?_) | (with_reducible refine stop_store ?_) | (with_reducible refine stop_make ?_) | (with_reducible refine stop_lit ?_) | (with_reducible refine stop_append ?_) | (with_reducible refine stop_copy ?_) | (with_reducible refine stop_map ?_) | (with_reducible refine stop_lookup ?_) | (with_reducible refine stop_update ?_) | (with_reducible refine stop_delete ?_) | (with_reducible refine stop_arr ?_) | (with_reducible refine stop_idx ?_) | (with_reducible refine stop_conv (e := 26) (f := 9) ?_) | ((with_reducible refine stopg_box ?hw ?_); case hw => rfl) | ((with_reducible refine stopg_alloc ?hw ?_); case hw => rfl) | ((with_reducible refine stopg_load ?hw ?_); case hw => rfl) | ((with_reducible refine stopg_store ?hw ?_); case hw => rfl) | ((with_reducible refine stopg_make ?hw ?_); case hw => rfl) | ((with_reducible refine stopg_lit ?hw ?_); case hw => rfl) | ((with_reducible refine stopg_append ?hw ?_); case hw => rfl) | ((with_reducible refine stopg_copy ?hw ?_); case hw => rfl) | ((with_reducible refine stopg_map ?hw ?_); case hw => rfl) | ((with_reducible refine stopg_lookup ?hw ?_); case hw => rfl) | ((with_reducible refine stopg_update ?hw ?_); case hw => rfl) | ((with_reducible refine stopg_delete ?hw ?_); case hw => rfl) | ((with_reducible refine stopg_arr ?hw ?_); case hw => rfl) | ((with_reducible refine stopg_conv (e := 26) (f := 9) ?hw ?_); case hw => rfl) | ((with_reducible refine stopg_idx ?hw ?_); case hw => rfl))
        go_ret
        refine ⟨?_, hK⟩
        rw [out'.out _ hK (.inl (by omega)), decide_eq_true h60]
        simp
      · have h60' : decide ((ls.length : Int) ≤ 60) = false := by simp; omega
        go_wp2_with (first | (with_reducible refine stop_box ?_) | (with_reducible refine stop_alloc ?_) | (with_reducible refine stop_load ?_) | (with_reducible refine stop_store ?_) | (with_reducible refine stop_make ?_) | (with_reducible refine stop_lit ?_) | (with_reducible refine stop_append ?_) | (with_reducible refine stop_copy ?_) | (with_reducible refine stop_map ?_) | (with_reducible refine stop_lookup ?_) | (with_reducible refine stop_update ?_) | (with_reducible refine stop_delete ?_) | (with_reducible refine stop_arr ?_) | (with_reducible refine stop_idx ?_) | (with_reducible refine stop_conv (e := 26) (f := 9) ?_) | ((with_reducible refine stopg_box ?hw ?_); case hw => rfl) | ((with_reducible refine stopg_alloc ?hw ?_); case hw => rfl) | ((with_reducible refine stopg_load ?hw ?_); case hw => rfl) | ((with_reducible refine stopg_store ?hw ?_); case hw => rfl) | ((with_reducible refine stopg_make ?hw ?_); case hw => rfl) | ((with_reducible refine stopg_lit ?hw ?_); case hw => rfl) | ((with_reducible refine stopg_append ?hw ?_); case hw => rfl) | ((with_reducible refine stopg_copy ?hw ?_); case hw => rfl) | ((with_reducible refine stopg_map ?hw ?_); case hw => rfl) | ((with_reducible refine stopg_lookup ?hw ?_); case hw => rfl) | ((with_reducible refine stopg_update ?hw ?_); case hw => rfl) | ((with_reducible refine stopg_delete ?hw ?_); case hw => rfl) | ((with_reducible refine stopg_arr ?hw ?_); case hw => rfl) | ((with_reducible refine stopg_conv (e := 26) (f := 9) ?hw ?_); case hw => rfl) | ((with_reducible refine stopg_idx ?hw ?_); case hw => rfl))
        go_ret
        refine ⟨?_, hK⟩
        rw [out'.out _ hK (.inl (by omega)), h60']
        rfl

set_option maxHeartbeats 400000 in
theorem rhigh_calls (n : Nat) (m K : Nat) (hK : K = min m 8) (hm : m ≤ 1000000000000000) (hn : n < 18446744073709551616) (w : World) :
    Calls Try.prog 24 #[.int .u64 n, .int .i64 m] w fun e w' => ∃ v, e = .returned v ∧ St [] w [.row 5 1 v K (bys (highB n K))] w' := by
  have H := (St.refl w).addNil 5 1
  have hK1 : K ≤ m := by omega
  have hK3 : K ≤ 8 := by omega
  have hK5 := Lib.hid (show K = m ∨ K = 8 by omega)
  have hn' := Lib.hid hn
  clear hK hn
  go_enter Try.func24, Try.ntmps24
  go_wp2_with (first | (with_reducible refine stop_box ?_) | (with_reducible refine stop_alloc ?_) | (with_reducible refine stop_load ?_) | (with_reducible refine stop_store ?_) | (with_reducible refine stop_make ?_) | (with_reducible refine stop_lit ?_) | (with_reducible refine stop_append ?_) | (with_reducible refine stop_copy ?_) | (with_reducible refine stop_map ?_) | (with_reducible refine stop_lookup ?_) | (with_reducible refine stop_update ?_) | (with_reducible refine stop_delete ?_) | (with_reducible refine stop_arr ?_) | (with_reducible refine stop_idx ?_) | (with_reducible refine stop_conv (e := 26) (f := 9) ?_) | ((with_reducible refine stopg_box ?hw ?_); case hw => rfl) | ((with_reducible refine stopg_alloc ?hw ?_); case hw => rfl) | ((with_reducible refine stopg_load ?hw ?_); case hw => rfl) | ((with_reducible refine stopg_store ?hw ?_); case hw => rfl) | ((with_reducible refine stopg_make ?hw ?_); case hw => rfl) | ((with_reducible refine stopg_lit ?hw ?_); case hw => rfl) | ((with_reducible refine stopg_append ?hw ?_); case hw => rfl) | ((with_reducible refine stopg_copy ?hw ?_); case hw => rfl) | ((with_reducible refine stopg_map ?hw ?_); case hw => rfl) | ((with_reducible refine stopg_lookup ?hw ?_); case hw => rfl) | ((with_reducible refine stopg_update ?hw ?_); case hw => rfl) | ((with_reducible refine stopg_delete ?hw ?_); case hw => rfl) | ((with_reducible refine stopg_arr ?hw ?_); case hw => rfl) | ((with_reducible refine stopg_conv (e := 26) (f := 9) ?hw ?_); case hw => rfl) | ((with_reducible refine stopg_idx ?hw ?_); case hw => rfl))
  go_loopw [0, 5, 6] (fun q v i wr => ∃ (k d : Nat), k ≤ K ∧ i = .int .i64 k ∧ q = .int .u64 d ∧ Hid (d = n / 2 ^ (8 * k)) ∧ St [] w [.row 5 1 v k (bys (highB n k))] wr) (fun _ _ i _ => K - (intOf i).toNat)
  case atStart => exact ⟨0, n, Nat.zero_le _, rfl, rfl, by simp [Hid], H⟩
  case round =>
    clear H
    obtain ⟨k, d, hk, rfl, rfl, hd, H⟩ := hrel
    by_cases hlt : k < K
    · have h1 : (k : Int) < (m : Int) := by omega
      have h2 : (k : Int) < 8 := by omega
      go_wp2_with (first | (with_reducible refine stop_box ?_) | (with_reducible refine stop_alloc ?_) | (with_reducible refine stop_load ?_) | (with_reducible refine stop_store ?_) | (with_reducible refine stop_make ?_) | (with_reducible refine stop_lit ?_) | (with_reducible refine stop_append ?_) | (with_reducible refine stop_copy ?_) | (with_reducible refine stop_map ?_) | (with_reducible refine stop_lookup ?_) | (with_reducible refine stop_update ?_) | (with_reducible refine stop_delete ?_) | (with_reducible refine stop_arr ?_) | (with_reducible refine stop_idx ?_) | (with_reducible refine stop_conv (e := 26) (f := 9) ?_) | ((with_reducible refine stopg_box ?hw ?_); case hw => rfl) | ((with_reducible refine stopg_alloc ?hw ?_); case hw => rfl) | ((with_reducible refine stopg_load ?hw ?_); case hw => rfl) | ((with_reducible refine stopg_store ?hw ?_); case hw => rfl) | ((with_reducible refine stopg_make ?hw ?_); case hw => rfl) | ((with_reducible refine stopg_lit ?hw ?_); case hw => rfl) | ((with_reducible refine stopg_append ?hw ?_); case hw => rfl) | ((with_reducible refine stopg_copy ?hw ?_); case hw => rfl) | ((with_reducible refine stopg_map ?hw ?_); case hw => rfl) | ((with_reducible refine stopg_lookup ?hw ?_); case hw => rfl) | ((with_reducible refine stopg_update ?hw ?_); case hw => rfl) | ((with_reducible refine stopg_delete ?hw ?_); case hw => rfl) | ((with_reducible refine stopg_arr ?hw ?_); case hw => rfl) | ((with_reducible refine stopg_conv (e := 26) (f := 9) ?hw ?_); case hw => rfl) | ((with_reducible refine stopg_idx ?hw ?_); case hw => rfl))
      refine wpl_want rfl (opw_lit1 [(0, .int .u8 (IntKind.u8.wrap (d : Int)))] H Try.underlying26 u8info (by omega) rfl rfl (by simp [Value.oneCell']) ?_)
      intro w3 b H3
      clear H
      obtain ⟨A1, c1, rfl, hc1, hm1, hs⟩ := (H3.get (k := 0) rfl).slice
      go_wp2_with (first | (with_reducible refine stop_box ?_) | (with_reducible refine stop_alloc ?_) | (with_reducible refine stop_load ?_) | (with_reducible refine stop_store ?_) | (with_reducible refine stop_make ?_) | (with_reducible refine stop_lit ?_) | (with_reducible refine stop_append ?_) | (with_reducible refine stop_copy ?_) | (with_reducible refine stop_map ?_) | (with_reducible refine stop_lookup ?_) | (with_reducible refine stop_update ?_) | (with_reducible refine stop_delete ?_) | (with_reducible refine stop_arr ?_) | (with_reducible refine stop_idx ?_) | (with_reducible refine stop_conv (e := 26) (f := 9) ?_) | ((with_reducible refine stopg_box ?hw ?_); case hw => rfl) | ((with_reducible refine stopg_alloc ?hw ?_); case hw => rfl) | ((with_reducible refine stopg_load ?hw ?_); case hw => rfl) | ((with_reducible refine stopg_store ?hw ?_); case hw => rfl) | ((with_reducible refine stopg_make ?hw ?_); case hw => rfl) | ((with_reducible refine stopg_lit ?hw ?_); case hw => rfl) | ((with_reducible refine stopg_append ?hw ?_); case hw => rfl) | ((with_reducible refine stopg_copy ?hw ?_); case hw => rfl) | ((with_reducible refine stopg_map ?hw ?_); case hw => rfl) | ((with_reducible refine stopg_lookup ?hw ?_); case hw => rfl) | ((with_reducible refine stopg_update ?hw ?_); case hw => rfl) | ((with_reducible refine stopg_delete ?hw ?_); case hw => rfl) | ((with_reducible refine stopg_arr ?hw ?_); case hw => rfl) | ((with_reducible refine stopg_conv (e := 26) (f := 9) ?hw ?_); case hw => rfl) | ((with_reducible refine stopg_idx ?hw ?_); case hw => rfl))
      refine wpl_want rfl (opw_append (k := 1) (m := k) H3 rfl Try.underlying26 Try.underlying26 u8info rfl (by omega) rfl rfl hs (by simp [bys, highB_length]) (bys_one _) (by omega) (by omega) ?_)
      intro w4 v4 H4
      clear H3 hs
      go_wp2_with (first | (with_reducible refine stop_box ?_) | (with_reducible refine stop_alloc ?_) | (with_reducible refine stop_load ?_) | (with_reducible refine stop_store ?_) | (with_reducible refine stop_make ?_) | (with_reducible refine stop_lit ?_) | (with_reducible refine stop_append ?_) | (with_reducible refine stop_copy ?_) | (with_reducible refine stop_map ?_) | (with_reducible refine stop_lookup ?_) | (with_reducible refine stop_update ?_) | (with_reducible refine stop_delete ?_) | (with_reducible refine stop_arr ?_) | (with_reducible refine stop_idx ?_) | (with_reducible refine stop_conv (e := 26) (f := 9) ?_) | ((with_reducible refine stopg_box ?hw ?_); case hw => rfl) | ((with_reducible refine stopg_alloc ?hw ?_); case hw => rfl) | ((with_reducible refine stopg_load ?hw ?_); case hw => rfl) | ((with_reducible refine stopg_store ?hw ?_); case hw => rfl) | ((with_reducible refine stopg_make ?hw ?_); case hw => rfl) | ((with_reducible refine stopg_lit ?hw ?_); case hw => rfl) | ((with_reducible refine stopg_append ?hw ?_); case hw => rfl) | ((with_reducible refine stopg_copy ?hw ?_); case hw => rfl) | ((with_reducible refine stopg_map ?hw ?_); case hw => rfl) | ((with_reducible refine stopg_lookup ?hw ?_); case hw => rfl) | ((with_reducible refine stopg_update ?hw ?_); case hw => rfl) | ((with_reducible refine stopg_delete ?hw ?_); case hw => rfl) | ((with_reducible refine stopg_arr ?hw ?_); case hw => rfl) | ((with_reducible refine stopg_conv (e := 26) (f := 9) ?hw ?_); case hw => rfl) | ((with_reducible refine stopg_idx ?hw ?_); case hw => rfl))
      refine ⟨⟨k + 1, d / 256, by omega, by go_num, ?_, ?_, ?_⟩, by simp [intOf]; omega⟩
      · rw [div256 d (by rw [hd.out]; exact Nat.lt_of_le_of_lt (Nat.div_le_self _ _) hn'.out)]
      · show _ = _
        rw [hd.out, div_step]
      · have e : bys (highB n (k + 1)) = [.int .u8 (IntKind.u8.wrap (d : Int))] ++ bys (highB n k) := by
          unfold highB
          rw [lowB_succ, List.reverse_append, bys_append, byte_of, hd.out]
          rfl
        rw [e, Nat.add_comm k 1]
        exact H4.sub (by simp [fillL])
    · have h1 : k = K := by omega
      subst h1
      rcases hK5.out with h | h
      · subst h
        go_wp2_with (first | (with_reducible refine stop_box ?_) | (with_reducible refine stop_alloc ?_) | (with_reducible refine stop_load ?_) | (with_reducible refine stop_store ?_) | (with_reducible refine stop_make ?_) | (with_reducible refine stop_lit ?_) | (with_reducible refine stop_append ?_) | (with_reducible refine stop_copy ?_) | (with_reducible refine stop_map ?_) | (with_reducible refine stop_lookup ?_) | (with_reducible refine stop_update ?_) | (with_reducible refine stop_delete ?_) | (with_reducible refine stop_arr ?_) | (with_reducible refine stop_idx ?_) | (with_reducible refine stop_conv (e := 26) (f := 9) ?_) | ((with_reducible refine stopg_box ?hw ?_); case hw => rfl) | ((with_reducible refine stopg_alloc ?hw ?_); case hw => rfl) | ((with_reducible refine stopg_load ?hw ?_); case hw => rfl) | ((with_reducible refine stopg_store ?hw ?_); case hw => rfl) | ((with_reducible refine stopg_make ?hw ?_); case hw => rfl) | ((with_reducible refine stopg_lit ?hw ?_); case hw => rfl) | ((with_reducible refine stopg_append ?hw ?_); case hw => rfl) | ((with_reducible refine stopg_copy ?hw ?_); case hw => rfl) | ((with_reducible refine stopg_map ?hw ?_); case hw => rfl) | ((with_reducible refine stopg_lookup ?hw ?_); case hw => rfl) | ((with_reducible refine stopg_update ?hw ?_); case hw => rfl) | ((with_reducible refine stopg_delete ?hw ?_); case hw => rfl) | ((with_reducible refine stopg_arr ?hw ?_); case hw => rfl) | ((with_reducible refine stopg_conv (e := 26) (f := 9) ?hw ?_); case hw => rfl) | ((with_reducible refine stopg_idx ?hw ?_); case hw => rfl))
        go_ret
        exact ⟨_, rfl, H⟩
      · subst h
        by_cases hm8 : (8 : Int) < (m : Int)
        · go_wp2_with (first | (with_reducible refine stop_box ?_) | (with_reducible refine stop_alloc ?_) | (with_reducible refine stop_load ?_) | (with_reducible refine stop_store ?_) | (with_reducible refine stop_make ?_) | (with_reducible refine stop_lit ?_) | (with_reducible refine stop_append ?_) | (with_reducible refine stop_copy ?_) | (with_reducible refine stop_map ?_) | (with_reducible refine stop_lookup ?_) | (with_reducible refine stop_update ?_) | (with_reducible refine stop_delete ?_) | (with_reducible refine stop_arr ?_) | (with_reducible refine stop_idx ?_) | (with_reducible refine stop_conv (e := 26) (f := 9) ?_) | ((with_reducible refine stopg_box ?hw ?_); case hw => rfl) | ((with_reducible refine stopg_alloc ?hw ?_); case hw => rfl) | ((with_reducible refine stopg_load ?hw ?_); case hw => rfl) | ((with_reducible refine stopg_store ?hw ?_); case hw => rfl) | ((with_reducible refine stopg_make ?hw ?_); case hw => rfl) | ((with_reducible refine stopg_lit ?hw ?_); case hw => rfl) | ((with_reducible refine stopg_append ?hw ?_); case hw => rfl) | ((with_reducible refine stopg_copy ?hw ?_); case hw => rfl) | ((with_reducible refine stopg_map ?hw ?_); case hw => rfl) | ((with_reducible refine stopg_lookup ?hw ?_); case hw => rfl) | ((with_reducible refine stopg_update ?hw ?_); case hw => rfl) | ((with_reducible refine stopg_delete ?hw ?_); case hw => rfl) | ((with_reducible refine stopg_arr ?hw ?_); case hw => rfl) | ((with_reducible refine stopg_conv (e := 26) (f := 9) ?hw ?_); case hw => rfl) | ((with_reducible refine stopg_idx ?hw ?_); case hw => rfl))
          go_ret
          exact ⟨_, rfl, H⟩
        · go_wp2_with (first | (with_reducible refine stop_box ?_) | (with_reducible refine stop_alloc ?_) | (with_reducible refine stop_load ?_) | (with_reducible refine stop_store ?_) | (with_reducible refine stop_make ?_) | (with_reducible refine stop_lit ?_) | (with_reducible refine stop_append ?_) | (with_reducible refine stop_copy ?_) | (with_reducible refine stop_map ?_) | (with_reducible refine stop_lookup ?_) | (with_reducible refine stop_update ?_) | (with_reducible refine stop_delete ?_) | (with_reducible refine stop_arr ?_) | (with_reducible refine stop_idx ?_) | (with_reducible refine stop_conv (e := 26) (f := 9) ?_) | ((with_reducible refine stopg_box ?hw ?_); case hw => rfl) | ((with_reducible refine stopg_alloc ?hw ?_); case hw => rfl) | ((with_reducible refine stopg_load ?hw ?_); case hw => rfl) | ((with_reducible refine stopg_store ?hw ?_); case hw => rfl) | ((with_reducible refine stopg_make ?hw ?_); case hw => rfl) | ((with_reducible refine stopg_lit ?hw ?_); case hw => rfl) | ((with_reducible refine stopg_append ?hw ?_); case hw => rfl) | ((with_reducible refine stopg_copy ?hw ?_); case hw => rfl) | ((with_reducible refine stopg_map ?hw ?_); case hw => rfl) | ((with_reducible refine stopg_lookup ?hw ?_); case hw => rfl) | ((with_reducible refine stopg_update ?hw ?_); case hw => rfl) | ((with_reducible refine stopg_delete ?hw ?_); case hw => rfl) | ((with_reducible refine stopg_arr ?hw ?_); case hw => rfl) | ((with_reducible refine stopg_conv (e := 26) (f := 9) ?hw ?_); case hw => rfl) | ((with_reducible refine stopg_idx ?hw ?_); case hw => rfl))
          go_ret
          exact ⟨_, rfl, H⟩

def JoC (w0 : World) (J h b : List Value) (n m : Nat) (u : Value) (s : Nat) (v : Value) (w' : World) : Prop :=
  match s with
  | 0 => St [] w0 [.row 5 1 u n J] w'
  | 1 => St [] w0 [.row 5 1 u n J, .row 5 1 v 4 h] w'
  | 2 => St [] w0 [.row 5 1 v (n + 4) (J ++ h)] w'
  | _ => St [] w0 [.row 5 1 v (n + 4 + m) (J ++ h ++ b)] w'

theorem joinB_part (ls : List (List UInt8)) (k : Nat) : (joinB (ls.take k)).length ≤ (joinB ls).length := by
  have h2 : ∀ (x y : List (List UInt8)), joinB (x ++ y) = joinB x ++ joinB y := by
    intro x y
    induction x with
    | nil => rfl
    | cons a x ih => simp [joinB, ih]
  have h3 := congrArg (fun q => (joinB q).length) (List.take_append_drop k ls)
  simp only [h2, List.length_append] at h3
  omega

set_option maxHeartbeats 800000 in
theorem rjoin_calls (ls : List (List UInt8)) (v0 : Value) (w : World) (hv : RowsAt w v0 ls) (hb : (joinB ls).length ≤ 1000000000) (hn : ls.length ≤ 140737488355328) :
    Calls Try.prog 27 #[v0] w fun e w' => ∃ v, e = .returned v ∧ St [] w [.row 5 1 v (joinB ls).length (bys (joinB ls))] w' := by
  have H := (St.refl w).addNil 5 1
  obtain ⟨A, c, vs, rfl, hc, hA, hvl, hvs⟩ := hv
  have hvl' := Lib.hid hvl
  have hvs' := Lib.hid hvs
  clear hvl hvs
  go_enter Try.func27, Try.ntmps27
  go_wp2_with (first | (with_reducible refine stop_box ?_) | (with_reducible refine stop_alloc ?_) | (with_reducible refine stop_load ?_) | (with_reducible refine stop_store ?_) | (with_reducible refine stop_make ?_) | (with_reducible refine stop_lit ?_) | (with_reducible refine stop_append ?_) | (with_reducible refine stop_copy ?_) | (with_reducible refine stop_map ?_) | (with_reducible refine stop_lookup ?_) | (with_reducible refine stop_update ?_) | (with_reducible refine stop_delete ?_) | (with_reducible refine stop_arr ?_) | (with_reducible refine stop_idx ?_) | (with_reducible refine stop_conv (e := 26) (f := 9) ?_) | ((with_reducible refine stopg_box ?hw ?_); case hw => rfl) | ((with_reducible refine stopg_alloc ?hw ?_); case hw => rfl) | ((with_reducible refine stopg_load ?hw ?_); case hw => rfl) | ((with_reducible refine stopg_store ?hw ?_); case hw => rfl) | ((with_reducible refine stopg_make ?hw ?_); case hw => rfl) | ((with_reducible refine stopg_lit ?hw ?_); case hw => rfl) | ((with_reducible refine stopg_append ?hw ?_); case hw => rfl) | ((with_reducible refine stopg_copy ?hw ?_); case hw => rfl) | ((with_reducible refine stopg_map ?hw ?_); case hw => rfl) | ((with_reducible refine stopg_lookup ?hw ?_); case hw => rfl) | ((with_reducible refine stopg_update ?hw ?_); case hw => rfl) | ((with_reducible refine stopg_delete ?hw ?_); case hw => rfl) | ((with_reducible refine stopg_arr ?hw ?_); case hw => rfl) | ((with_reducible refine stopg_conv (e := 26) (f := 9) ?hw ?_); case hw => rfl) | ((with_reducible refine stopg_idx ?hw ?_); case hw => rfl))
  go_loopw [3, 4] (fun v i wr => ∃ (k n : Nat), k ≤ ls.length ∧ i = .int .i64 k ∧ Hid (n = (joinB (ls.take k)).length) ∧ St [] w [.row 5 1 v n (bys (joinB (ls.take k)))] wr) (fun _ i _ => ls.length - (intOf i).toNat)
  case atStart => exact ⟨0, 0, Nat.zero_le _, rfl, rfl, H⟩
  case round =>
    clear H
    obtain ⟨k, n, hk, rfl, hnn, H⟩ := hrel
    by_cases hlt : k < ls.length
    · obtain ⟨b, hx⟩ : ∃ x, ls[k]? = some x := ⟨_, List.getElem?_eq_getElem (by omega)⟩
      obtain ⟨u, hu⟩ : ∃ x, vs[k]? = some x := ⟨_, List.getElem?_eq_getElem (by have := hvl'.out; omega)⟩
      obtain ⟨ad, rfl, hcell⟩ := hA k _ hu
      obtain ⟨B, d, rfl, hd, hB⟩ := hvs'.out k u b hu hx
      have hjs : joinB (ls.take (k + 1)) = joinB (ls.take k) ++ highB b.length 4 ++ b := by
        rw [List.take_add_one, hx]
        exact joinB_snoc _ _
      have hbl : n + 4 + b.length ≤ 1000000000 := by
        have := hnn.out
        have hjl := joinB_part ls (k + 1)
        rw [hjs] at hjl
        simp [highB_length] at hjl
        omega
      have hjs' := Lib.hid hjs
      clear hx hu hjs
      go_wp2_with (first | (with_reducible refine stop_box ?_) | (with_reducible refine stop_alloc ?_) | (with_reducible refine stop_load ?_) | (with_reducible refine stop_store ?_) | (with_reducible refine stop_make ?_) | (with_reducible refine stop_lit ?_) | (with_reducible refine stop_append ?_) | (with_reducible refine stop_copy ?_) | (with_reducible refine stop_map ?_) | (with_reducible refine stop_lookup ?_) | (with_reducible refine stop_update ?_) | (with_reducible refine stop_delete ?_) | (with_reducible refine stop_arr ?_) | (with_reducible refine stop_idx ?_) | (with_reducible refine stop_conv (e := 26) (f := 9) ?_) | ((with_reducible refine stopg_box ?hw ?_); case hw => rfl) | ((with_reducible refine stopg_alloc ?hw ?_); case hw => rfl) | ((with_reducible refine stopg_load ?hw ?_); case hw => rfl) | ((with_reducible refine stopg_store ?hw ?_); case hw => rfl) | ((with_reducible refine stopg_make ?hw ?_); case hw => rfl) | ((with_reducible refine stopg_lit ?hw ?_); case hw => rfl) | ((with_reducible refine stopg_append ?hw ?_); case hw => rfl) | ((with_reducible refine stopg_copy ?hw ?_); case hw => rfl) | ((with_reducible refine stopg_map ?hw ?_); case hw => rfl) | ((with_reducible refine stopg_lookup ?hw ?_); case hw => rfl) | ((with_reducible refine stopg_update ?hw ?_); case hw => rfl) | ((with_reducible refine stopg_delete ?hw ?_); case hw => rfl) | ((with_reducible refine stopg_arr ?hw ?_); case hw => rfl) | ((with_reducible refine stopg_conv (e := 26) (f := 9) ?hw ?_); case hw => rfl) | ((with_reducible refine stopg_idx ?hw ?_); case hw => rfl))
      refine wp_region_chain (n := 26) [7, 8, 13, 14] (fun s v w' => JoC w (bys (joinB (ls.take k))) (bys (highB b.length 4)) (bys b) n b.length u3 s v w' ∧ Kept [] w w') (regF [fun v _ => v = u3, fun v _ => v = .slice (some ad) ls.length c, fun v _ => v = .int .i64 k, fun v _ => v = .pointer (some (ad.add k)), fun v _ => v = .slice B b.length d, fun v _ => v = .int .i64 b.length, fun v _ => v = .int .u64 b.length, fun v w' => True, fun v w' => True, fun v _ => v = .slice (some ad) ls.length c, fun v _ => v = .int .i64 k, fun v _ => v = .pointer (some (ad.add k)), fun v _ => v = .slice B b.length d, fun v w' => True, fun v w' => True]) [[], [], [], [(12, 1), (13, 2)], [(14, 3)], [(15, 4)], [(16, 5)], [(17, 6)], [(11, 0), (18, 7)], [], [], [(20, 9), (21, 10)], [(22, 11)], [(19, 8), (23, 12)], [(24, 13), (11, 0), (12, 1), (13, 2), (14, 3), (15, 4), (16, 5), (17, 6), (18, 7), (19, 8), (20, 9), (21, 10), (22, 11), (23, 12)]] [(11, 0), (12, 1), (13, 2), (14, 3), (15, 4), (16, 5), (17, 6), (18, 7), (19, 8), (20, 9), (21, 10), (22, 11), (23, 12), (24, 13), (3, 14)] (by kernel_rfl) (by kernel_rfl) rfl ⟨H.drew, H.kept.drew⟩ ⟨?_, ?_, ?_, ?_, ?_, ?_, ?_, ?_, ?_, ?_, ?_, ?_, ?_, ?_, ?_, trivial⟩ ?_
      · intro s9 v9 vx w9 hs hv9 hC hF
        clear hF
        refine ⟨trivial, ?_⟩
        simp only [putsOf]
        exact opw_val (v := u3) (w' := w9) (by go_simp <;> (simp only [IntKind.wrap_u64, IntKind.wrap_i64] <;> omega)) ⟨_, rfl, by simp, (by rw [if_neg (by decide)]; exact hC), (fun _ _ h => h), rfl⟩
      · intro s9 v9 vx w9 hs hv9 hC hF
        clear hF
        refine ⟨trivial, ?_⟩
        simp only [putsOf]
        exact opw_val (v := .slice (some ad) ls.length c) (w' := w9) (by go_simp <;> (simp only [IntKind.wrap_u64, IntKind.wrap_i64] <;> omega)) ⟨_, rfl, by simp, (by rw [if_neg (by decide)]; exact hC), (fun _ _ h => h), rfl⟩
      · intro s9 v9 vx w9 hs hv9 hC hF
        clear hF
        refine ⟨trivial, ?_⟩
        simp only [putsOf]
        exact opw_val (v := .int .i64 k) (w' := w9) (by go_simp <;> (simp only [IntKind.wrap_u64, IntKind.wrap_i64] <;> omega)) ⟨_, rfl, by simp, (by rw [if_neg (by decide)]; exact hC), (fun _ _ h => h), rfl⟩
      · intro s9 v9 vx w9 hs hv9 hC hF
        have q1 : (vx 1) = .slice (some ad) ls.length c := hF (12, 1) (by simp)
        have q2 : (vx 2) = .int .i64 k := hF (13, 2) (by simp)
        clear hF
        refine ⟨trivial, ?_⟩
        simp only [putsOf, q1, q2]
        exact opw_val (v := .pointer (some (ad.add k))) (w' := w9) (by go_simp <;> (simp only [IntKind.wrap_u64, IntKind.wrap_i64] <;> omega)) ⟨_, rfl, by simp, (by rw [if_neg (by decide)]; exact hC), (fun _ _ h => h), rfl⟩
      · intro s9 v9 vx w9 hs hv9 hC hF
        have q3 : (vx 3) = .pointer (some (ad.add k)) := hF (14, 3) (by simp)
        clear hF
        refine ⟨trivial, ?_⟩
        simp only [putsOf, q3]
        exact opw_load Try.underlying26 rfl rfl (hC.2.cell hcell (by simp)) ⟨_, rfl, by simp, (by rw [if_neg (by decide)]; exact hC), (fun _ _ h => h), rfl⟩
      · intro s9 v9 vx w9 hs hv9 hC hF
        have q4 : (vx 4) = .slice B b.length d := hF (15, 4) (by simp)
        clear hF
        refine ⟨trivial, ?_⟩
        simp only [putsOf, q4]
        exact opw_val (v := .int .i64 b.length) (w' := w9) (by go_simp <;> (simp only [IntKind.wrap_u64, IntKind.wrap_i64] <;> omega)) ⟨_, rfl, by simp, (by rw [if_neg (by decide)]; exact hC), (fun _ _ h => h), rfl⟩
      · intro s9 v9 vx w9 hs hv9 hC hF
        have q5 : (vx 5) = .int .i64 b.length := hF (16, 5) (by simp)
        clear hF
        refine ⟨trivial, ?_⟩
        simp only [putsOf, q5]
        exact opw_val (v := .int .u64 b.length) (w' := w9) (by go_simp <;> (simp only [IntKind.wrap_u64, IntKind.wrap_i64] <;> omega)) ⟨_, rfl, by simp, (by rw [if_neg (by decide)]; exact hC), (fun _ _ h => h), rfl⟩
      · intro s9 v9 vx w9 hs hv9 hC hF
        have q6 : (vx 6) = .int .u64 b.length := hF (17, 6) (by simp)
        clear hF
        obtain rfl : s9 = 0 := by have h9 := hs (by decide); rcases s9 with _ | _ | _ | _ | s9 <;> simp at h9 <;> rfl
        refine ⟨trivial, ?_⟩
        simp only [putsOf, q6]
        have H9 : St [] w [.row 5 1 u3 n (bys (joinB (ls.take k)))] w9 := hC.1
        refine opw_call [.int .u64 b.length, .int .i64 4] Try.func24 rfl (by kernel_rfl) rfl ?_
        refine (rhigh_calls b.length 4 4 rfl (by omega) (by omega) w9).mono ?_
        rintro e w1 ⟨v, rfl, H1⟩
        have H2 : St [] w [.row 5 1 u3 n (bys (joinB (ls.take k))), .row 5 1 v 4 (bys (highB b.length 4))] w1 := H9.join H1
        exact ⟨_, rfl, _, rfl, by simp, (by rw [if_pos (by decide)]; exact ⟨H2, H2.kept⟩), (fun _ _ h => regF_const (by simp [allConst, Const.eq, Const.true]) h), trivial⟩
      · intro s9 v9 vx w9 hs hv9 hC hF
        have q0 : (vx 0) = u3 := hF (11, 0) (by simp)
        have q7 : True := hF (18, 7) (by simp)
        obtain _ := q7
        clear hF
        obtain rfl : s9 = 1 := by have h9 := hs (by decide); rcases s9 with _ | _ | _ | _ | s9 <;> simp at h9 <;> rfl
        obtain rfl : v9 = vx 7 := hv9
        refine ⟨trivial, ?_⟩
        simp only [putsOf, q0]
        have H9 : St [] w [.row 5 1 u3 n (bys (joinB (ls.take k))), .row 5 1 (vx 7) 4 (bys (highB b.length 4))] w9 := hC.1
        obtain ⟨A1, c1, e1, hc1, hm1, hs9⟩ := (H9.get (k := 1) rfl).slice
        rw [e1] at H9 ⊢
        refine opw_append (k := 0) (m := 4) H9 rfl Try.underlying26 Try.underlying26 u8info rfl (by omega) rfl rfl hs9 (by simp [bys, highB_length]) (bys_one _) (by omega) (by omega) ?_
        intro w4 v4 H4
        have H5 : St [] w [.row 5 1 v4 (n + 4) (bys (joinB (ls.take k)) ++ bys (highB b.length 4))] w4 := H4.sub (by simp)
        exact ⟨_, rfl, by simp, (by rw [if_pos (by decide)]; exact ⟨H5, H5.kept⟩), (fun _ _ h => regF_const (by simp [allConst, Const.eq, Const.true]) h), trivial⟩
      · intro s9 v9 vx w9 hs hv9 hC hF
        clear hF
        refine ⟨trivial, ?_⟩
        simp only [putsOf]
        exact opw_val (v := .slice (some ad) ls.length c) (w' := w9) (by go_simp <;> (simp only [IntKind.wrap_u64, IntKind.wrap_i64] <;> omega)) ⟨_, rfl, by simp, (by rw [if_neg (by decide)]; exact hC), (fun _ _ h => h), rfl⟩
      · intro s9 v9 vx w9 hs hv9 hC hF
        clear hF
        refine ⟨trivial, ?_⟩
        simp only [putsOf]
        exact opw_val (v := .int .i64 k) (w' := w9) (by go_simp <;> (simp only [IntKind.wrap_u64, IntKind.wrap_i64] <;> omega)) ⟨_, rfl, by simp, (by rw [if_neg (by decide)]; exact hC), (fun _ _ h => h), rfl⟩
      · intro s9 v9 vx w9 hs hv9 hC hF
        have q9 : (vx 9) = .slice (some ad) ls.length c := hF (20, 9) (by simp)
        have q10 : (vx 10) = .int .i64 k := hF (21, 10) (by simp)
        clear hF
        refine ⟨trivial, ?_⟩
        simp only [putsOf, q9, q10]
        exact opw_val (v := .pointer (some (ad.add k))) (w' := w9) (by go_simp <;> (simp only [IntKind.wrap_u64, IntKind.wrap_i64] <;> omega)) ⟨_, rfl, by simp, (by rw [if_neg (by decide)]; exact hC), (fun _ _ h => h), rfl⟩
      · intro s9 v9 vx w9 hs hv9 hC hF
        have q11 : (vx 11) = .pointer (some (ad.add k)) := hF (22, 11) (by simp)
        clear hF
        refine ⟨trivial, ?_⟩
        simp only [putsOf, q11]
        exact opw_load Try.underlying26 rfl rfl (hC.2.cell hcell (by simp)) ⟨_, rfl, by simp, (by rw [if_neg (by decide)]; exact hC), (fun _ _ h => h), rfl⟩
      · intro s9 v9 vx w9 hs hv9 hC hF
        have q8 : True := hF (19, 8) (by simp)
        obtain _ := q8
        have q12 : (vx 12) = .slice B b.length d := hF (23, 12) (by simp)
        clear hF
        obtain rfl : s9 = 2 := by have h9 := hs (by decide); rcases s9 with _ | _ | _ | _ | s9 <;> simp at h9 <;> rfl
        obtain rfl : v9 = vx 8 := hv9
        refine ⟨trivial, ?_⟩
        simp only [putsOf, q12]
        have H9 : St [] w [.row 5 1 (vx 8) (n + 4) (bys (joinB (ls.take k)) ++ bys (highB b.length 4))] w9 := hC.1
        refine opw_append (k := 0) (m := b.length) H9 rfl Try.underlying26 Try.underlying26 u8info rfl (by omega) rfl rfl (H9.sl0 hB) (by simp [bys]) (bys_one _) (by omega) (by omega) ?_
        intro w4 v4 H4
        have H5 : St [] w [.row 5 1 v4 (n + 4 + b.length) (bys (joinB (ls.take k)) ++ bys (highB b.length 4) ++ bys b)] w4 := H4
        exact ⟨_, rfl, by simp, (by rw [if_pos (by decide)]; exact ⟨H5, H5.kept⟩), (fun _ _ h => regF_const (by simp [allConst, Const.eq, Const.true]) h), trivial⟩
      · intro s9 v9 vx w9 hs hv9 hC hF
        have q13 : True := hF (24, 13) (by simp)
        obtain _ := q13
        have q0 : (vx 0) = u3 := hF (11, 0) (by simp)
        have q1 : (vx 1) = .slice (some ad) ls.length c := hF (12, 1) (by simp)
        have q2 : (vx 2) = .int .i64 k := hF (13, 2) (by simp)
        have q3 : (vx 3) = .pointer (some (ad.add k)) := hF (14, 3) (by simp)
        have q4 : (vx 4) = .slice B b.length d := hF (15, 4) (by simp)
        have q5 : (vx 5) = .int .i64 b.length := hF (16, 5) (by simp)
        have q6 : (vx 6) = .int .u64 b.length := hF (17, 6) (by simp)
        have q7 : True := hF (18, 7) (by simp)
        obtain _ := q7
        have q8 : True := hF (19, 8) (by simp)
        obtain _ := q8
        have q9 : (vx 9) = .slice (some ad) ls.length c := hF (20, 9) (by simp)
        have q10 : (vx 10) = .int .i64 k := hF (21, 10) (by simp)
        have q11 : (vx 11) = .pointer (some (ad.add k)) := hF (22, 11) (by simp)
        have q12 : (vx 12) = .slice B b.length d := hF (23, 12) (by simp)
        clear hF
        obtain rfl : s9 = 3 := by have h9 := hs (by decide); rcases s9 with _ | _ | _ | _ | s9 <;> simp at h9 <;> rfl
        obtain rfl : v9 = vx 13 := hv9
        refine ⟨trivial, ?_⟩
        simp only [putsOf, q0, q1, q2, q3, q4, q5, q6, q9, q10, q11, q12]
        have H5 : St [] w [.row 5 1 (vx 13) (n + 4 + b.length) (bys (joinB (ls.take k)) ++ bys (highB b.length 4) ++ bys b)] w9 := hC.1
        exact opw_val (v := vx 13) (w' := w9) (by go_simp) ⟨_, rfl, by simp, (by rw [if_pos (by decide)]; exact ⟨H5, H5.kept⟩), (fun _ _ h => h), trivial⟩
      intro vx w9 hC hF
      have q0 : (vx 0) = u3 := hF 0 (by simp)
      have q1 : (vx 1) = .slice (some ad) ls.length c := hF 1 (by simp)
      have q2 : (vx 2) = .int .i64 k := hF 2 (by simp)
      have q3 : (vx 3) = .pointer (some (ad.add k)) := hF 3 (by simp)
      have q4 : (vx 4) = .slice B b.length d := hF 4 (by simp)
      have q5 : (vx 5) = .int .i64 b.length := hF 5 (by simp)
      have q6 : (vx 6) = .int .u64 b.length := hF 6 (by simp)
      have q7 : True := hF 7 (by simp)
      obtain _ := q7
      have q8 : True := hF 8 (by simp)
      obtain _ := q8
      have q9 : (vx 9) = .slice (some ad) ls.length c := hF 9 (by simp)
      have q10 : (vx 10) = .int .i64 k := hF 10 (by simp)
      have q11 : (vx 11) = .pointer (some (ad.add k)) := hF 11 (by simp)
      have q12 : (vx 12) = .slice B b.length d := hF 12 (by simp)
      have q13 : True := hF 13 (by simp)
      obtain _ := q13
      have q14 : True := hF 14 (by simp)
      obtain _ := q14
      clear hF
      simp only [putsOf, q0, q1, q2, q3, q4, q5, q6, q9, q10, q11, q12]
      simp only [Act.put, List.setIfInBounds_toArray, List.set_cons_succ, List.set_cons_zero]
      clear q0 q1 q2 q3 q4 q5 q6 q9 q10 q11 q12
      have H5 : St [] w [.row 5 1 (vx 14) (n + 4 + b.length) (bys (joinB (ls.take k)) ++ bys (highB b.length 4) ++ bys b)] w9 := hC.1
      go_wp2_with (first | (with_reducible refine stop_box ?_) | (with_reducible refine stop_alloc ?_) | (with_reducible refine stop_load ?_) | (with_reducible refine stop_store ?_) | (with_reducible refine stop_make ?_) | (with_reducible refine stop_lit ?_) | (with_reducible refine stop_append ?_) | (with_reducible refine stop_copy ?_) | (with_reducible refine stop_map ?_) | (with_reducible refine stop_lookup ?_) | (with_reducible refine stop_update ?_) | (with_reducible refine stop_delete ?_) | (with_reducible refine stop_arr ?_) | (with_reducible refine stop_idx ?_) | (with_reducible refine stop_conv (e := 26) (f := 9) ?_) | ((with_reducible refine stopg_box ?hw ?_); case hw => rfl) | ((with_reducible refine stopg_alloc ?hw ?_); case hw => rfl) | ((with_reducible refine stopg_load ?hw ?_); case hw => rfl) | ((with_reducible refine stopg_store ?hw ?_); case hw => rfl) | ((with_reducible refine stopg_make ?hw ?_); case hw => rfl) | ((with_reducible refine stopg_lit ?hw ?_); case hw => rfl) | ((with_reducible refine stopg_append ?hw ?_); case hw => rfl) | ((with_reducible refine stopg_copy ?hw ?_); case hw => rfl) | ((with_reducible refine stopg_map ?hw ?_); case hw => rfl) | ((with_reducible refine stopg_lookup ?hw ?_); case hw => rfl) | ((with_reducible refine stopg_update ?hw ?_); case hw => rfl) | ((with_reducible refine stopg_delete ?hw ?_); case hw => rfl) | ((with_reducible refine stopg_arr ?hw ?_); case hw => rfl) | ((with_reducible refine stopg_conv (e := 26) (f := 9) ?hw ?_); case hw => rfl) | ((with_reducible refine stopg_idx ?hw ?_); case hw => rfl))
      refine ⟨⟨k + 1, n + 4 + b.length, by omega, by go_num, ?_, ?_⟩, by simp [intOf]; omega⟩
      · show _ = _
        rw [hjs'.out, hnn.out]
        simp [highB_length]
        omega
      · rw [hjs'.out, bys_append, bys_append]
        exact H5
    · go_wp2_with (first | (with_reducible refine stop_box ?_) | (with_reducible refine stop_alloc ?_) | (with_reducible refine stop_load ?_) | (with_reducible refine stop_store ?_) | (with_reducible refine stop_make ?_) | (with_reducible refine stop_lit ?_) | (with_reducible refine stop_append ?_) | (with_reducible refine stop_copy ?_) | (with_reducible refine stop_map ?_) | (with_reducible refine stop_lookup ?_) | (with_reducible refine stop_update ?_) | (with_reducible refine stop_delete ?_) | (with_reducible refine stop_arr ?_) | (with_reducible refine stop_idx ?_) | (with_reducible refine stop_conv (e := 26) (f := 9) ?_) | ((with_reducible refine stopg_box ?hw ?_); case hw => rfl) | ((with_reducible refine stopg_alloc ?hw ?_); case hw => rfl) | ((with_reducible refine stopg_load ?hw ?_); case hw => rfl) | ((with_reducible refine stopg_store ?hw ?_); case hw => rfl) | ((with_reducible refine stopg_make ?hw ?_); case hw => rfl) | ((with_reducible refine stopg_lit ?hw ?_); case hw => rfl) | ((with_reducible refine stopg_append ?hw ?_); case hw => rfl) | ((with_reducible refine stopg_copy ?hw ?_); case hw => rfl) | ((with_reducible refine stopg_map ?hw ?_); case hw => rfl) | ((with_reducible refine stopg_lookup ?hw ?_); case hw => rfl) | ((with_reducible refine stopg_update ?hw ?_); case hw => rfl) | ((with_reducible refine stopg_delete ?hw ?_); case hw => rfl) | ((with_reducible refine stopg_arr ?hw ?_); case hw => rfl) | ((with_reducible refine stopg_conv (e := 26) (f := 9) ?hw ?_); case hw => rfl) | ((with_reducible refine stopg_idx ?hw ?_); case hw => rfl))
      have : k = ls.length := by omega
      subst this
      go_ret
      rw [List.take_length] at H hnn
      have := hnn.out
      subst this
      exact ⟨_, rfl, H⟩

set_option maxHeartbeats 800000 in
theorem rpart_calls (b0 : List UInt8) (A0 : Option Addr) (c0 : Nat) (w : World) (hA0 : SlAt w A0 (bys b0)) (hc0 : b0.length ≤ c0) (hl : b0.length ≤ 1000000000) :
    Calls Try.prog 26 #[.slice A0 b0.length c0] w (PartPost Try.prog b0 w) := by
  have H := (St.refl w).addNil 26 1
  go_enter Try.func26, Try.ntmps26
  go_wp2_with (first | (with_reducible refine stop_box ?_) | (with_reducible refine stop_alloc ?_) | (with_reducible refine stop_load ?_) | (with_reducible refine stop_store ?_) | (with_reducible refine stop_make ?_) | (with_reducible refine stop_lit ?_) | (with_reducible refine stop_append ?_) | (with_reducible refine stop_copy ?_) | (with_reducible refine stop_map ?_) | (with_reducible refine stop_lookup ?_) | (with_reducible refine stop_update ?_) | (with_reducible refine stop_delete ?_) | (with_reducible refine stop_arr ?_) | (with_reducible refine stop_idx ?_) | (with_reducible refine stop_conv (e := 26) (f := 9) ?_) | ((with_reducible refine stopg_box ?hw ?_); case hw => rfl) | ((with_reducible refine stopg_alloc ?hw ?_); case hw => rfl) | ((with_reducible refine stopg_load ?hw ?_); case hw => rfl) | ((with_reducible refine stopg_store ?hw ?_); case hw => rfl) | ((with_reducible refine stopg_make ?hw ?_); case hw => rfl) | ((with_reducible refine stopg_lit ?hw ?_); case hw => rfl) | ((with_reducible refine stopg_append ?hw ?_); case hw => rfl) | ((with_reducible refine stopg_copy ?hw ?_); case hw => rfl) | ((with_reducible refine stopg_map ?hw ?_); case hw => rfl) | ((with_reducible refine stopg_lookup ?hw ?_); case hw => rfl) | ((with_reducible refine stopg_update ?hw ?_); case hw => rfl) | ((with_reducible refine stopg_delete ?hw ?_); case hw => rfl) | ((with_reducible refine stopg_arr ?hw ?_); case hw => rfl) | ((with_reducible refine stopg_conv (e := 26) (f := 9) ?hw ?_); case hw => rfl) | ((with_reducible refine stopg_idx ?hw ?_); case hw => rfl))
  go_loopw [0, 4] (fun s v wr => ∃ (b : List UInt8) (A : Option Addr) (c : Nat) (ls : List (List UInt8)) (vs : List Value), s = .slice A b.length c ∧ b.length ≤ c ∧ SlAt w A (bys b) ∧ b.length ≤ b0.length ∧ vs.length = ls.length ∧ ls.length + b.length ≤ b0.length ∧
      Hid (partOf b0 = (partOf b).map (ls ++ ·)) ∧ St [] w (.row 26 1 v ls.length vs :: inner vs ls) wr) (fun s _ _ => match s with | .slice _ n _ => n | _ => 0)
  case atStart => exact ⟨b0, A0, c0, [], [], rfl, hc0, hA0, Nat.le_refl _, rfl, by simp, by simp [Hid], H⟩
  case round =>
    clear H hA0 hc0
    obtain ⟨b, A, c, ls, vs, rfl, hc, hA, hb, hvl, hlb, hp, H⟩ := hrel
    have hvl' := Lib.hid hvl
    clear hvl
    by_cases h0 : b.length = 0
    · obtain rfl : b = [] := List.eq_nil_of_length_eq_zero h0
      go_wp2_with (first | (with_reducible refine stop_box ?_) | (with_reducible refine stop_alloc ?_) | (with_reducible refine stop_load ?_) | (with_reducible refine stop_store ?_) | (with_reducible refine stop_make ?_) | (with_reducible refine stop_lit ?_) | (with_reducible refine stop_append ?_) | (with_reducible refine stop_copy ?_) | (with_reducible refine stop_map ?_) | (with_reducible refine stop_lookup ?_) | (with_reducible refine stop_update ?_) | (with_reducible refine stop_delete ?_) | (with_reducible refine stop_arr ?_) | (with_reducible refine stop_idx ?_) | (with_reducible refine stop_conv (e := 26) (f := 9) ?_) | ((with_reducible refine stopg_box ?hw ?_); case hw => rfl) | ((with_reducible refine stopg_alloc ?hw ?_); case hw => rfl) | ((with_reducible refine stopg_load ?hw ?_); case hw => rfl) | ((with_reducible refine stopg_store ?hw ?_); case hw => rfl) | ((with_reducible refine stopg_make ?hw ?_); case hw => rfl) | ((with_reducible refine stopg_lit ?hw ?_); case hw => rfl) | ((with_reducible refine stopg_append ?hw ?_); case hw => rfl) | ((with_reducible refine stopg_copy ?hw ?_); case hw => rfl) | ((with_reducible refine stopg_map ?hw ?_); case hw => rfl) | ((with_reducible refine stopg_lookup ?hw ?_); case hw => rfl) | ((with_reducible refine stopg_update ?hw ?_); case hw => rfl) | ((with_reducible refine stopg_delete ?hw ?_); case hw => rfl) | ((with_reducible refine stopg_arr ?hw ?_); case hw => rfl) | ((with_reducible refine stopg_conv (e := 26) (f := 9) ?hw ?_); case hw => rfl) | ((with_reducible refine stopg_idx ?hw ?_); case hw => rfl))
      go_ret2
      refine .inr ⟨ls, _, vs, ?_, rfl, hvl'.out, H⟩
      rw [hp.out, partOf_nil]
      simp
    · obtain ⟨x, hx⟩ : ∃ x, b[0]? = some x := ⟨_, List.getElem?_eq_getElem (by omega)⟩
      obtain ⟨ad, rfl, _⟩ := hA 0 _ (by rw [bys_get, hx]; rfl)
      clear hx
      have hpos : (0 : Int) < (b.length : Int) := by omega
      have hne : Hid (b ≠ []) := by rintro rfl; exact h0 rfl
      clear h0
      by_cases h4 : b.length < 4
      · have h4' : decide ((b.length : Int) < 4) = true := by simp; omega
        go_wp2_with (first | (with_reducible refine stop_box ?_) | (with_reducible refine stop_alloc ?_) | (with_reducible refine stop_load ?_) | (with_reducible refine stop_store ?_) | (with_reducible refine stop_make ?_) | (with_reducible refine stop_lit ?_) | (with_reducible refine stop_append ?_) | (with_reducible refine stop_copy ?_) | (with_reducible refine stop_map ?_) | (with_reducible refine stop_lookup ?_) | (with_reducible refine stop_update ?_) | (with_reducible refine stop_delete ?_) | (with_reducible refine stop_arr ?_) | (with_reducible refine stop_idx ?_) | (with_reducible refine stop_conv (e := 26) (f := 9) ?_) | ((with_reducible refine stopg_box ?hw ?_); case hw => rfl) | ((with_reducible refine stopg_alloc ?hw ?_); case hw => rfl) | ((with_reducible refine stopg_load ?hw ?_); case hw => rfl) | ((with_reducible refine stopg_store ?hw ?_); case hw => rfl) | ((with_reducible refine stopg_make ?hw ?_); case hw => rfl) | ((with_reducible refine stopg_lit ?hw ?_); case hw => rfl) | ((with_reducible refine stopg_append ?hw ?_); case hw => rfl) | ((with_reducible refine stopg_copy ?hw ?_); case hw => rfl) | ((with_reducible refine stopg_map ?hw ?_); case hw => rfl) | ((with_reducible refine stopg_lookup ?hw ?_); case hw => rfl) | ((with_reducible refine stopg_update ?hw ?_); case hw => rfl) | ((with_reducible refine stopg_delete ?hw ?_); case hw => rfl) | ((with_reducible refine stopg_arr ?hw ?_); case hw => rfl) | ((with_reducible refine stopg_conv (e := 26) (f := 9) ?hw ?_); case hw => rfl) | ((with_reducible refine stopg_idx ?hw ?_); case hw => rfl))
        go_ret2
        refine .inl ⟨?_, rfl, H.kept⟩
        rw [hp.out, partOf_short hne.out h4]
        rfl
      · have hO : ∀ B w1, SlAt w1 B (bys ((b.take 4).drop 0)) → Calls Try.prog 20 #[.slice B 4 c] w1 fun e w' => e = .returned (.int .u64 (ofHigh (b.take 4))) ∧ Kept [] w1 w' := by
          intro B w1 hB
          have hO := rofHigh_calls (b.take 4) B c w1 hB (by rw [List.length_take]; omega) (by rw [List.length_take]; omega)
          rw [List.length_take, Nat.min_eq_left (by omega), List.take_take] at hO
          rw [show min 8 4 = 4 from rfl] at hO
          exact hO
        have hn : ofHigh (b.take 4) < 4294967296 := by
          have := ofHigh_lt (b.take 4)
          rw [List.length_take, Nat.min_eq_left (by omega)] at this
          exact this
        have hstep := Lib.hid (partOf_step (b := b) (by omega))
        have hfar := Lib.hid (partOf_far (b := b) (by omega))
        generalize ofHigh (b.take 4) = n at *
        have h4c : 4 ≤ c := by omega
        have h4ci : (4 : Int) ≤ (c : Int) := by omega
        have hc0 : ¬ c = 0 := by omega
        have h4b : (4 : Int) ≤ (b.length : Int) := by omega
        have h4' : decide ((b.length : Int) < 4) = false := by simp; omega
        go_wp2_with (first | (with_reducible refine stop_box ?_) | (with_reducible refine stop_alloc ?_) | (with_reducible refine stop_load ?_) | (with_reducible refine stop_store ?_) | (with_reducible refine stop_make ?_) | (with_reducible refine stop_lit ?_) | (with_reducible refine stop_append ?_) | (with_reducible refine stop_copy ?_) | (with_reducible refine stop_map ?_) | (with_reducible refine stop_lookup ?_) | (with_reducible refine stop_update ?_) | (with_reducible refine stop_delete ?_) | (with_reducible refine stop_arr ?_) | (with_reducible refine stop_idx ?_) | (with_reducible refine stop_slice ?_) | (with_reducible refine stop_conv (e := 26) (f := 9) ?_) | ((with_reducible refine stopg_box ?hw ?_); case hw => rfl) | ((with_reducible refine stopg_alloc ?hw ?_); case hw => rfl) | ((with_reducible refine stopg_load ?hw ?_); case hw => rfl) | ((with_reducible refine stopg_store ?hw ?_); case hw => rfl) | ((with_reducible refine stopg_make ?hw ?_); case hw => rfl) | ((with_reducible refine stopg_lit ?hw ?_); case hw => rfl) | ((with_reducible refine stopg_append ?hw ?_); case hw => rfl) | ((with_reducible refine stopg_copy ?hw ?_); case hw => rfl) | ((with_reducible refine stopg_map ?hw ?_); case hw => rfl) | ((with_reducible refine stopg_lookup ?hw ?_); case hw => rfl) | ((with_reducible refine stopg_update ?hw ?_); case hw => rfl) | ((with_reducible refine stopg_delete ?hw ?_); case hw => rfl) | ((with_reducible refine stopg_arr ?hw ?_); case hw => rfl) | ((with_reducible refine stopg_slice ?hw ?_); case hw => rfl) | ((with_reducible refine stopg_conv (e := 26) (f := 9) ?hw ?_); case hw => rfl) | ((with_reducible refine stopg_idx ?hw ?_); case hw => rfl))
        refine wpl_want rfl (opw_sliceB 0 4 b Try.underlying26 u8size rfl (.inl ⟨rfl, rfl⟩) (.inr ⟨_, _, rfl, rfl⟩) (by omega) h4c hc ?_)
        intro B hB
        have hO' := hO B wr (hB _ (H.sl0 hA))
        clear hB
        go_wp2_with (first | (with_reducible refine stop_box ?_) | (with_reducible refine stop_alloc ?_) | (with_reducible refine stop_load ?_) | (with_reducible refine stop_store ?_) | (with_reducible refine stop_make ?_) | (with_reducible refine stop_lit ?_) | (with_reducible refine stop_append ?_) | (with_reducible refine stop_copy ?_) | (with_reducible refine stop_map ?_) | (with_reducible refine stop_lookup ?_) | (with_reducible refine stop_update ?_) | (with_reducible refine stop_delete ?_) | (with_reducible refine stop_arr ?_) | (with_reducible refine stop_idx ?_) | (with_reducible refine stop_slice ?_) | (with_reducible refine stop_conv (e := 26) (f := 9) ?_) | ((with_reducible refine stopg_box ?hw ?_); case hw => rfl) | ((with_reducible refine stopg_alloc ?hw ?_); case hw => rfl) | ((with_reducible refine stopg_load ?hw ?_); case hw => rfl) | ((with_reducible refine stopg_store ?hw ?_); case hw => rfl) | ((with_reducible refine stopg_make ?hw ?_); case hw => rfl) | ((with_reducible refine stopg_lit ?hw ?_); case hw => rfl) | ((with_reducible refine stopg_append ?hw ?_); case hw => rfl) | ((with_reducible refine stopg_copy ?hw ?_); case hw => rfl) | ((with_reducible refine stopg_map ?hw ?_); case hw => rfl) | ((with_reducible refine stopg_lookup ?hw ?_); case hw => rfl) | ((with_reducible refine stopg_update ?hw ?_); case hw => rfl) | ((with_reducible refine stopg_delete ?hw ?_); case hw => rfl) | ((with_reducible refine stopg_arr ?hw ?_); case hw => rfl) | ((with_reducible refine stopg_slice ?hw ?_); case hw => rfl) | ((with_reducible refine stopg_conv (e := 26) (f := 9) ?hw ?_); case hw => rfl) | ((with_reducible refine stopg_idx ?hw ?_); case hw => rfl))
        refine hO'.mono ?_
        clear hO'
        rintro e w1 ⟨rfl, hK1⟩
        have H1 := H.keep hK1
        clear H
        by_cases hnb : b.length - 4 < n
        · have hnb' : ((b.length : Int) - 4 < (n : Int)) := by omega
          have hnb2 : decide ((b.length : Int) - 4 < (n : Int)) = true := by simp; omega
          go_wp2_with (first | (with_reducible refine stop_box ?_) | (with_reducible refine stop_alloc ?_) | (with_reducible refine stop_load ?_) | (with_reducible refine stop_store ?_) | (with_reducible refine stop_make ?_) | (with_reducible refine stop_lit ?_) | (with_reducible refine stop_append ?_) | (with_reducible refine stop_copy ?_) | (with_reducible refine stop_map ?_) | (with_reducible refine stop_lookup ?_) | (with_reducible refine stop_update ?_) | (with_reducible refine stop_delete ?_) | (with_reducible refine stop_arr ?_) | (with_reducible refine stop_idx ?_) | (with_reducible refine stop_slice ?_) | (with_reducible refine stop_conv (e := 26) (f := 9) ?_) | ((with_reducible refine stopg_box ?hw ?_); case hw => rfl) | ((with_reducible refine stopg_alloc ?hw ?_); case hw => rfl) | ((with_reducible refine stopg_load ?hw ?_); case hw => rfl) | ((with_reducible refine stopg_store ?hw ?_); case hw => rfl) | ((with_reducible refine stopg_make ?hw ?_); case hw => rfl) | ((with_reducible refine stopg_lit ?hw ?_); case hw => rfl) | ((with_reducible refine stopg_append ?hw ?_); case hw => rfl) | ((with_reducible refine stopg_copy ?hw ?_); case hw => rfl) | ((with_reducible refine stopg_map ?hw ?_); case hw => rfl) | ((with_reducible refine stopg_lookup ?hw ?_); case hw => rfl) | ((with_reducible refine stopg_update ?hw ?_); case hw => rfl) | ((with_reducible refine stopg_delete ?hw ?_); case hw => rfl) | ((with_reducible refine stopg_arr ?hw ?_); case hw => rfl) | ((with_reducible refine stopg_slice ?hw ?_); case hw => rfl) | ((with_reducible refine stopg_conv (e := 26) (f := 9) ?hw ?_); case hw => rfl) | ((with_reducible refine stopg_idx ?hw ?_); case hw => rfl))
          go_ret2
          refine .inl ⟨?_, rfl, H1.kept⟩
          rw [hp.out, hfar.out hnb]
          rfl
        · have hnb' : ¬ ((b.length : Int) - 4 < (n : Int)) := by omega
          have hnb2 : decide ((b.length : Int) - 4 < (n : Int)) = false := by simp; omega
          go_wp2_with (first | (with_reducible refine stop_box ?_) | (with_reducible refine stop_alloc ?_) | (with_reducible refine stop_load ?_) | (with_reducible refine stop_store ?_) | (with_reducible refine stop_make ?_) | (with_reducible refine stop_lit ?_) | (with_reducible refine stop_append ?_) | (with_reducible refine stop_copy ?_) | (with_reducible refine stop_map ?_) | (with_reducible refine stop_lookup ?_) | (with_reducible refine stop_update ?_) | (with_reducible refine stop_delete ?_) | (with_reducible refine stop_arr ?_) | (with_reducible refine stop_idx ?_) | (with_reducible refine stop_slice ?_) | (with_reducible refine stop_conv (e := 26) (f := 9) ?_) | ((with_reducible refine stopg_box ?hw ?_); case hw => rfl) | ((with_reducible refine stopg_alloc ?hw ?_); case hw => rfl) | ((with_reducible refine stopg_load ?hw ?_); case hw => rfl) | ((with_reducible refine stopg_store ?hw ?_); case hw => rfl) | ((with_reducible refine stopg_make ?hw ?_); case hw => rfl) | ((with_reducible refine stopg_lit ?hw ?_); case hw => rfl) | ((with_reducible refine stopg_append ?hw ?_); case hw => rfl) | ((with_reducible refine stopg_copy ?hw ?_); case hw => rfl) | ((with_reducible refine stopg_map ?hw ?_); case hw => rfl) | ((with_reducible refine stopg_lookup ?hw ?_); case hw => rfl) | ((with_reducible refine stopg_update ?hw ?_); case hw => rfl) | ((with_reducible refine stopg_delete ?hw ?_); case hw => rfl) | ((with_reducible refine stopg_arr ?hw ?_); case hw => rfl) | ((with_reducible refine stopg_slice ?hw ?_); case hw => rfl) | ((with_reducible refine stopg_conv (e := 26) (f := 9) ?hw ?_); case hw => rfl) | ((with_reducible refine stopg_idx ?hw ?_); case hw => rfl))
          refine wpl_want rfl (opw_sliceB 0 4 b Try.underlying26 u8size rfl (.inl ⟨rfl, rfl⟩) (.inr ⟨_, _, rfl, rfl⟩) (by omega) h4c hc ?_)
          intro B hB
          have hO' := hO B w1 (hB _ (H1.sl0 hA))
          clear hO hB
          go_wp2_with (first | (with_reducible refine stop_box ?_) | (with_reducible refine stop_alloc ?_) | (with_reducible refine stop_load ?_) | (with_reducible refine stop_store ?_) | (with_reducible refine stop_make ?_) | (with_reducible refine stop_lit ?_) | (with_reducible refine stop_append ?_) | (with_reducible refine stop_copy ?_) | (with_reducible refine stop_map ?_) | (with_reducible refine stop_lookup ?_) | (with_reducible refine stop_update ?_) | (with_reducible refine stop_delete ?_) | (with_reducible refine stop_arr ?_) | (with_reducible refine stop_idx ?_) | (with_reducible refine stop_slice ?_) | (with_reducible refine stop_conv (e := 26) (f := 9) ?_) | ((with_reducible refine stopg_box ?hw ?_); case hw => rfl) | ((with_reducible refine stopg_alloc ?hw ?_); case hw => rfl) | ((with_reducible refine stopg_load ?hw ?_); case hw => rfl) | ((with_reducible refine stopg_store ?hw ?_); case hw => rfl) | ((with_reducible refine stopg_make ?hw ?_); case hw => rfl) | ((with_reducible refine stopg_lit ?hw ?_); case hw => rfl) | ((with_reducible refine stopg_append ?hw ?_); case hw => rfl) | ((with_reducible refine stopg_copy ?hw ?_); case hw => rfl) | ((with_reducible refine stopg_map ?hw ?_); case hw => rfl) | ((with_reducible refine stopg_lookup ?hw ?_); case hw => rfl) | ((with_reducible refine stopg_update ?hw ?_); case hw => rfl) | ((with_reducible refine stopg_delete ?hw ?_); case hw => rfl) | ((with_reducible refine stopg_arr ?hw ?_); case hw => rfl) | ((with_reducible refine stopg_slice ?hw ?_); case hw => rfl) | ((with_reducible refine stopg_conv (e := 26) (f := 9) ?hw ?_); case hw => rfl) | ((with_reducible refine stopg_idx ?hw ?_); case hw => rfl))
          refine hO'.mono ?_
          clear hO'
          rintro e w2 ⟨rfl, hK2⟩
          have H2 := H1.keep hK2
          clear H1
          obtain ⟨I, hI⟩ : ∃ I, inner vs ls = I := ⟨_, rfl⟩
          rw [hI] at H2
          have hI' := Lib.hid hI
          clear hI
          have hst := Lib.hid (hstep.out (by omega))
          have hnb3 : n + 4 ≤ b.length := by omega
          clear hstep hfar hnb hnb' hnb2
          go_wp2_with (first | (with_reducible refine stop_box ?_) | (with_reducible refine stop_alloc ?_) | (with_reducible refine stop_load ?_) | (with_reducible refine stop_store ?_) | (with_reducible refine stop_make ?_) | (with_reducible refine stop_lit ?_) | (with_reducible refine stop_append ?_) | (with_reducible refine stop_copy ?_) | (with_reducible refine stop_map ?_) | (with_reducible refine stop_lookup ?_) | (with_reducible refine stop_update ?_) | (with_reducible refine stop_delete ?_) | (with_reducible refine stop_arr ?_) | (with_reducible refine stop_idx ?_) | (with_reducible refine stop_slice ?_) | (with_reducible refine stop_conv (e := 26) (f := 9) ?_) | ((with_reducible refine stopg_box ?hw ?_); case hw => rfl) | ((with_reducible refine stopg_alloc ?hw ?_); case hw => rfl) | ((with_reducible refine stopg_load ?hw ?_); case hw => rfl) | ((with_reducible refine stopg_store ?hw ?_); case hw => rfl) | ((with_reducible refine stopg_make ?hw ?_); case hw => rfl) | ((with_reducible refine stopg_lit ?hw ?_); case hw => rfl) | ((with_reducible refine stopg_append ?hw ?_); case hw => rfl) | ((with_reducible refine stopg_copy ?hw ?_); case hw => rfl) | ((with_reducible refine stopg_map ?hw ?_); case hw => rfl) | ((with_reducible refine stopg_lookup ?hw ?_); case hw => rfl) | ((with_reducible refine stopg_update ?hw ?_); case hw => rfl) | ((with_reducible refine stopg_delete ?hw ?_); case hw => rfl) | ((with_reducible refine stopg_arr ?hw ?_); case hw => rfl) | ((with_reducible refine stopg_slice ?hw ?_); case hw => rfl) | ((with_reducible refine stopg_conv (e := 26) (f := 9) ?hw ?_); case hw => rfl) | ((with_reducible refine stopg_idx ?hw ?_); case hw => rfl))
          refine wpl_want rfl (opw_lit1 [] H2 Try.underlying26 u8info (by omega) rfl rfl (by simp) ?_)
          intro w3 nb H3
          go_wp2_with (first | (with_reducible refine stop_box ?_) | (with_reducible refine stop_alloc ?_) | (with_reducible refine stop_load ?_) | (with_reducible refine stop_store ?_) | (with_reducible refine stop_make ?_) | (with_reducible refine stop_lit ?_) | (with_reducible refine stop_append ?_) | (with_reducible refine stop_copy ?_) | (with_reducible refine stop_map ?_) | (with_reducible refine stop_lookup ?_) | (with_reducible refine stop_update ?_) | (with_reducible refine stop_delete ?_) | (with_reducible refine stop_arr ?_) | (with_reducible refine stop_idx ?_) | (with_reducible refine stop_slice ?_) | (with_reducible refine stop_conv (e := 26) (f := 9) ?_) | ((with_reducible refine stopg_box ?hw ?_); case hw => rfl) | ((with_reducible refine stopg_alloc ?hw ?_); case hw => rfl) | ((with_reducible refine stopg_load ?hw ?_); case hw => rfl) | ((with_reducible refine stopg_store ?hw ?_); case hw => rfl) | ((with_reducible refine stopg_make ?hw ?_); case hw => rfl) | ((with_reducible refine stopg_lit ?hw ?_); case hw => rfl) | ((with_reducible refine stopg_append ?hw ?_); case hw => rfl) | ((with_reducible refine stopg_copy ?hw ?_); case hw => rfl) | ((with_reducible refine stopg_map ?hw ?_); case hw => rfl) | ((with_reducible refine stopg_lookup ?hw ?_); case hw => rfl) | ((with_reducible refine stopg_update ?hw ?_); case hw => rfl) | ((with_reducible refine stopg_delete ?hw ?_); case hw => rfl) | ((with_reducible refine stopg_arr ?hw ?_); case hw => rfl) | ((with_reducible refine stopg_slice ?hw ?_); case hw => rfl) | ((with_reducible refine stopg_conv (e := 26) (f := 9) ?hw ?_); case hw => rfl) | ((with_reducible refine stopg_idx ?hw ?_); case hw => rfl))
          refine wpl_want rfl (opw_sliceB 4 (4 + n) b Try.underlying26 u8size rfl (.inr ⟨_, _, rfl, rfl⟩) (.inr ⟨_, _, rfl, by go_num⟩) (by omega) (by omega) hc ?_)
          intro B2 hB2
          have hsl := hB2 _ (H3.sl0 hA)
          rw [List.drop_take, show 4 + n - 4 = n by omega] at hsl
          clear hB2
          have hnn : (4 + n : Nat) - 4 = n := by omega
          rw [hnn]
          go_wp2_with (first | (with_reducible refine stop_box ?_) | (with_reducible refine stop_alloc ?_) | (with_reducible refine stop_load ?_) | (with_reducible refine stop_store ?_) | (with_reducible refine stop_make ?_) | (with_reducible refine stop_lit ?_) | (with_reducible refine stop_append ?_) | (with_reducible refine stop_copy ?_) | (with_reducible refine stop_map ?_) | (with_reducible refine stop_lookup ?_) | (with_reducible refine stop_update ?_) | (with_reducible refine stop_delete ?_) | (with_reducible refine stop_arr ?_) | (with_reducible refine stop_idx ?_) | (with_reducible refine stop_slice ?_) | (with_reducible refine stop_conv (e := 26) (f := 9) ?_) | ((with_reducible refine stopg_box ?hw ?_); case hw => rfl) | ((with_reducible refine stopg_alloc ?hw ?_); case hw => rfl) | ((with_reducible refine stopg_load ?hw ?_); case hw => rfl) | ((with_reducible refine stopg_store ?hw ?_); case hw => rfl) | ((with_reducible refine stopg_make ?hw ?_); case hw => rfl) | ((with_reducible refine stopg_lit ?hw ?_); case hw => rfl) | ((with_reducible refine stopg_append ?hw ?_); case hw => rfl) | ((with_reducible refine stopg_copy ?hw ?_); case hw => rfl) | ((with_reducible refine stopg_map ?hw ?_); case hw => rfl) | ((with_reducible refine stopg_lookup ?hw ?_); case hw => rfl) | ((with_reducible refine stopg_update ?hw ?_); case hw => rfl) | ((with_reducible refine stopg_delete ?hw ?_); case hw => rfl) | ((with_reducible refine stopg_arr ?hw ?_); case hw => rfl) | ((with_reducible refine stopg_slice ?hw ?_); case hw => rfl) | ((with_reducible refine stopg_conv (e := 26) (f := 9) ?hw ?_); case hw => rfl) | ((with_reducible refine stopg_idx ?hw ?_); case hw => rfl))
          refine wpl_want rfl (opw_append (m := n) H3 (get_last _ _) Try.underlying26 Try.underlying26 u8info rfl (by omega) rfl rfl hsl (by simp [bys]; omega) (bys_one _) (by omega) (by omega) ?_)
          intro w4 v3 H4
          rw [set_last] at H4
          obtain ⟨A3, c3, rfl, hc3, hm3, hs3⟩ := (H4.get (get_last _ _)).slice
          clear hs3 hsl H2 H3
          go_wp2_with (first | (with_reducible refine stop_box ?_) | (with_reducible refine stop_alloc ?_) | (with_reducible refine stop_load ?_) | (with_reducible refine stop_store ?_) | (with_reducible refine stop_make ?_) | (with_reducible refine stop_lit ?_) | (with_reducible refine stop_append ?_) | (with_reducible refine stop_copy ?_) | (with_reducible refine stop_map ?_) | (with_reducible refine stop_lookup ?_) | (with_reducible refine stop_update ?_) | (with_reducible refine stop_delete ?_) | (with_reducible refine stop_arr ?_) | (with_reducible refine stop_idx ?_) | (with_reducible refine stop_slice ?_) | (with_reducible refine stop_conv (e := 26) (f := 9) ?_) | ((with_reducible refine stopg_box ?hw ?_); case hw => rfl) | ((with_reducible refine stopg_alloc ?hw ?_); case hw => rfl) | ((with_reducible refine stopg_load ?hw ?_); case hw => rfl) | ((with_reducible refine stopg_store ?hw ?_); case hw => rfl) | ((with_reducible refine stopg_make ?hw ?_); case hw => rfl) | ((with_reducible refine stopg_lit ?hw ?_); case hw => rfl) | ((with_reducible refine stopg_append ?hw ?_); case hw => rfl) | ((with_reducible refine stopg_copy ?hw ?_); case hw => rfl) | ((with_reducible refine stopg_map ?hw ?_); case hw => rfl) | ((with_reducible refine stopg_lookup ?hw ?_); case hw => rfl) | ((with_reducible refine stopg_update ?hw ?_); case hw => rfl) | ((with_reducible refine stopg_delete ?hw ?_); case hw => rfl) | ((with_reducible refine stopg_arr ?hw ?_); case hw => rfl) | ((with_reducible refine stopg_slice ?hw ?_); case hw => rfl) | ((with_reducible refine stopg_conv (e := 26) (f := 9) ?hw ?_); case hw => rfl) | ((with_reducible refine stopg_idx ?hw ?_); case hw => rfl))
          refine wpl_want rfl (opw_lit1 [(0, .slice A3 (0 + n) c3)] H4 Try.underlying22 rowsinfo (by omega) rfl rfl (by simp [Value.oneCell']) ?_)
          intro w5 nb4 H5
          clear H4
          have hs4 := Row.sl (H5.get (get_last _ _))
          go_wp2_with (first | (with_reducible refine stop_box ?_) | (with_reducible refine stop_alloc ?_) | (with_reducible refine stop_load ?_) | (with_reducible refine stop_store ?_) | (with_reducible refine stop_make ?_) | (with_reducible refine stop_lit ?_) | (with_reducible refine stop_append ?_) | (with_reducible refine stop_copy ?_) | (with_reducible refine stop_map ?_) | (with_reducible refine stop_lookup ?_) | (with_reducible refine stop_update ?_) | (with_reducible refine stop_delete ?_) | (with_reducible refine stop_arr ?_) | (with_reducible refine stop_idx ?_) | (with_reducible refine stop_slice ?_) | (with_reducible refine stop_conv (e := 26) (f := 9) ?_) | ((with_reducible refine stopg_box ?hw ?_); case hw => rfl) | ((with_reducible refine stopg_alloc ?hw ?_); case hw => rfl) | ((with_reducible refine stopg_load ?hw ?_); case hw => rfl) | ((with_reducible refine stopg_store ?hw ?_); case hw => rfl) | ((with_reducible refine stopg_make ?hw ?_); case hw => rfl) | ((with_reducible refine stopg_lit ?hw ?_); case hw => rfl) | ((with_reducible refine stopg_append ?hw ?_); case hw => rfl) | ((with_reducible refine stopg_copy ?hw ?_); case hw => rfl) | ((with_reducible refine stopg_map ?hw ?_); case hw => rfl) | ((with_reducible refine stopg_lookup ?hw ?_); case hw => rfl) | ((with_reducible refine stopg_update ?hw ?_); case hw => rfl) | ((with_reducible refine stopg_delete ?hw ?_); case hw => rfl) | ((with_reducible refine stopg_arr ?hw ?_); case hw => rfl) | ((with_reducible refine stopg_slice ?hw ?_); case hw => rfl) | ((with_reducible refine stopg_conv (e := 26) (f := 9) ?hw ?_); case hw => rfl) | ((with_reducible refine stopg_idx ?hw ?_); case hw => rfl))
          refine wpl_want rfl (opw_append (k := 0) (m := 1) H5 rfl Try.underlying22 Try.underlying22 rowsinfo rfl (by omega) rfl rfl hs4 rfl (by simp [fillL, Value.oneCell']) (by omega) (by omega) ?_)
          intro w6 v5 H6
          clear H5 hs4
          go_wp2_with (first | (with_reducible refine stop_box ?_) | (with_reducible refine stop_alloc ?_) | (with_reducible refine stop_load ?_) | (with_reducible refine stop_store ?_) | (with_reducible refine stop_make ?_) | (with_reducible refine stop_lit ?_) | (with_reducible refine stop_append ?_) | (with_reducible refine stop_copy ?_) | (with_reducible refine stop_map ?_) | (with_reducible refine stop_lookup ?_) | (with_reducible refine stop_update ?_) | (with_reducible refine stop_delete ?_) | (with_reducible refine stop_arr ?_) | (with_reducible refine stop_idx ?_) | (with_reducible refine stop_slice ?_) | (with_reducible refine stop_conv (e := 26) (f := 9) ?_) | ((with_reducible refine stopg_box ?hw ?_); case hw => rfl) | ((with_reducible refine stopg_alloc ?hw ?_); case hw => rfl) | ((with_reducible refine stopg_load ?hw ?_); case hw => rfl) | ((with_reducible refine stopg_store ?hw ?_); case hw => rfl) | ((with_reducible refine stopg_make ?hw ?_); case hw => rfl) | ((with_reducible refine stopg_lit ?hw ?_); case hw => rfl) | ((with_reducible refine stopg_append ?hw ?_); case hw => rfl) | ((with_reducible refine stopg_copy ?hw ?_); case hw => rfl) | ((with_reducible refine stopg_map ?hw ?_); case hw => rfl) | ((with_reducible refine stopg_lookup ?hw ?_); case hw => rfl) | ((with_reducible refine stopg_update ?hw ?_); case hw => rfl) | ((with_reducible refine stopg_delete ?hw ?_); case hw => rfl) | ((with_reducible refine stopg_arr ?hw ?_); case hw => rfl) | ((with_reducible refine stopg_slice ?hw ?_); case hw => rfl) | ((with_reducible refine stopg_conv (e := 26) (f := 9) ?hw ?_); case hw => rfl) | ((with_reducible refine stopg_idx ?hw ?_); case hw => rfl))
          refine wpl_want rfl (opw_sliceB (4 + n) b.length b Try.underlying26 u8size rfl (.inr ⟨_, _, rfl, by go_num⟩) (.inl ⟨rfl, rfl⟩) (by omega) hc hc ?_)
          intro B3 hB3
          have hsl := hB3 _ hA
          rw [List.take_length, ← List.drop_drop] at hsl
          clear hB3
          go_wp2_with (first | (with_reducible refine stop_box ?_) | (with_reducible refine stop_alloc ?_) | (with_reducible refine stop_load ?_) | (with_reducible refine stop_store ?_) | (with_reducible refine stop_make ?_) | (with_reducible refine stop_lit ?_) | (with_reducible refine stop_append ?_) | (with_reducible refine stop_copy ?_) | (with_reducible refine stop_map ?_) | (with_reducible refine stop_lookup ?_) | (with_reducible refine stop_update ?_) | (with_reducible refine stop_delete ?_) | (with_reducible refine stop_arr ?_) | (with_reducible refine stop_idx ?_) | (with_reducible refine stop_slice ?_) | (with_reducible refine stop_conv (e := 26) (f := 9) ?_) | ((with_reducible refine stopg_box ?hw ?_); case hw => rfl) | ((with_reducible refine stopg_alloc ?hw ?_); case hw => rfl) | ((with_reducible refine stopg_load ?hw ?_); case hw => rfl) | ((with_reducible refine stopg_store ?hw ?_); case hw => rfl) | ((with_reducible refine stopg_make ?hw ?_); case hw => rfl) | ((with_reducible refine stopg_lit ?hw ?_); case hw => rfl) | ((with_reducible refine stopg_append ?hw ?_); case hw => rfl) | ((with_reducible refine stopg_copy ?hw ?_); case hw => rfl) | ((with_reducible refine stopg_map ?hw ?_); case hw => rfl) | ((with_reducible refine stopg_lookup ?hw ?_); case hw => rfl) | ((with_reducible refine stopg_update ?hw ?_); case hw => rfl) | ((with_reducible refine stopg_delete ?hw ?_); case hw => rfl) | ((with_reducible refine stopg_arr ?hw ?_); case hw => rfl) | ((with_reducible refine stopg_slice ?hw ?_); case hw => rfl) | ((with_reducible refine stopg_conv (e := 26) (f := 9) ?hw ?_); case hw => rfl) | ((with_reducible refine stopg_idx ?hw ?_); case hw => rfl))
          have hlen : b.length - (4 + n) = ((b.drop 4).drop n).length := by rw [List.length_drop, List.length_drop]; omega
          refine ⟨⟨(b.drop 4).drop n, B3, c - (4 + n), ls ++ [(b.drop 4).take n], vs ++ [.slice A3 (0 + n) c3], by rw [← hlen], by rw [← hlen]; omega, hsl, by rw [← hlen]; omega, by have := hvl'.out; simp [this], by rw [← hlen, List.length_append, List.length_singleton]; omega, ?_, ?_⟩, by simp <;> omega⟩
          · show _ = _
            rw [hp.out, hst.out, Option.map_map]
            congr 1
            funext x
            simp
          · refine H6.sub ?_
            have e : inner (vs ++ [Value.slice A3 (0 + n) c3]) (ls ++ [(b.drop 4).take n]) = I ++ [.row 5 1 (.slice A3 (0 + n) c3) (0 + n) (bys ((b.drop 4).take n))] := by
              unfold inner
              rw [List.zipWith_append hvl'.out, ← hI'.out]
              simp [inner]
              omega
            rw [e]
            simp [fillL]
end Go.Proofs.Ythdendffngihbaa
