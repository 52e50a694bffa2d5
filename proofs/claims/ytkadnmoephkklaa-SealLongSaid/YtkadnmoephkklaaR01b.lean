/- What Light, High, Join and Part of palfreyref01 do, and the seat's awake. Conditions: lengths that memory bears. -/
import Derived.Test.YtkadnmoephkklaaR01
namespace Go.Proofs.Ytkadnmoephkklaa
open Go.RowKit Go.PBYtkadnmoephkklaa
set_option linter.unusedVariables false
set_option maxRecDepth 10000
set_option linter.unusedSimpArgs false

set_option maxHeartbeats 400000 in
theorem rhigh_calls (n : Nat) (m K : Nat) (hK : K = min m 8) (hm : m ≤ 1000000000000000) (hn : n < 18446744073709551616) (w : World) :
    Calls Try.prog 69 #[.int .u64 n, .int .i64 m] w fun e w' => ∃ v, e = .returned v ∧ St [] w [.row 5 1 v K (bys (highB n K))] w' := by
  have H := (St.refl w).addNil 5 1
  have hK1 : K ≤ m := by omega
  have hK3 : K ≤ 8 := by omega
  have hK5 := Lib.hid (show K = m ∨ K = 8 by omega)
  have hn' := Lib.hid hn
  clear hK hn
  go_enter Try.func69, Try.ntmps69
  go_wp2_with (first | (with_reducible refine stop_box ?_) | (with_reducible refine stop_alloc ?_) | (with_reducible refine stop_load ?_) | (with_reducible refine stop_store ?_) | (with_reducible refine stop_make ?_) | (with_reducible refine stop_lit ?_) | (with_reducible refine stop_append ?_) | (with_reducible refine stop_copy ?_) | (with_reducible refine stop_map ?_) | (with_reducible refine stop_lookup ?_) | (with_reducible refine stop_update ?_) | (with_reducible refine stop_delete ?_) | (with_reducible refine stop_clear ?_) | (with_reducible refine stop_arr ?_) | (with_reducible refine stop_idx ?_) | (with_reducible refine stop_conv (e := 24) (f := 9) ?_) | ((with_reducible refine stopg_box ?hw ?_); case hw => rfl) | ((with_reducible refine stopg_alloc ?hw ?_); case hw => rfl) | ((with_reducible refine stopg_load ?hw ?_); case hw => rfl) | ((with_reducible refine stopg_store ?hw ?_); case hw => rfl) | ((with_reducible refine stopg_make ?hw ?_); case hw => rfl) | ((with_reducible refine stopg_lit ?hw ?_); case hw => rfl) | ((with_reducible refine stopg_append ?hw ?_); case hw => rfl) | ((with_reducible refine stopg_copy ?hw ?_); case hw => rfl) | ((with_reducible refine stopg_map ?hw ?_); case hw => rfl) | ((with_reducible refine stopg_lookup ?hw ?_); case hw => rfl) | ((with_reducible refine stopg_update ?hw ?_); case hw => rfl) | ((with_reducible refine stopg_delete ?hw ?_); case hw => rfl) | ((with_reducible refine stopg_clear ?hw ?_); case hw => rfl) | ((with_reducible refine stopg_arr ?hw ?_); case hw => rfl) | ((with_reducible refine stopg_conv (e := 24) (f := 9) ?hw ?_); case hw => rfl) | ((with_reducible refine stopg_idx ?hw ?_); case hw => rfl))
  go_loopw [0, 5, 6] (fun q v i wr => ∃ (k d : Nat), k ≤ K ∧ i = .int .i64 k ∧ q = .int .u64 d ∧ Hid (d = n / 2 ^ (8 * k)) ∧ St [] w [.row 5 1 v k (bys (highB n k))] wr) (fun _ _ i _ => K - (intOf i).toNat)
  case atStart => exact ⟨0, n, Nat.zero_le _, rfl, rfl, by simp [Hid], H⟩
  case round =>
    clear H
    obtain ⟨k, d, hk, rfl, rfl, hd, H⟩ := hrel
    by_cases hlt : k < K
    · have h1 : (k : Int) < (m : Int) := by omega
      have h2 : (k : Int) < 8 := by omega
      go_wp2_with (first | (with_reducible refine stop_box ?_) | (with_reducible refine stop_alloc ?_) | (with_reducible refine stop_load ?_) | (with_reducible refine stop_store ?_) | (with_reducible refine stop_make ?_) | (with_reducible refine stop_lit ?_) | (with_reducible refine stop_append ?_) | (with_reducible refine stop_copy ?_) | (with_reducible refine stop_map ?_) | (with_reducible refine stop_lookup ?_) | (with_reducible refine stop_update ?_) | (with_reducible refine stop_delete ?_) | (with_reducible refine stop_clear ?_) | (with_reducible refine stop_arr ?_) | (with_reducible refine stop_idx ?_) | (with_reducible refine stop_conv (e := 24) (f := 9) ?_) | ((with_reducible refine stopg_box ?hw ?_); case hw => rfl) | ((with_reducible refine stopg_alloc ?hw ?_); case hw => rfl) | ((with_reducible refine stopg_load ?hw ?_); case hw => rfl) | ((with_reducible refine stopg_store ?hw ?_); case hw => rfl) | ((with_reducible refine stopg_make ?hw ?_); case hw => rfl) | ((with_reducible refine stopg_lit ?hw ?_); case hw => rfl) | ((with_reducible refine stopg_append ?hw ?_); case hw => rfl) | ((with_reducible refine stopg_copy ?hw ?_); case hw => rfl) | ((with_reducible refine stopg_map ?hw ?_); case hw => rfl) | ((with_reducible refine stopg_lookup ?hw ?_); case hw => rfl) | ((with_reducible refine stopg_update ?hw ?_); case hw => rfl) | ((with_reducible refine stopg_delete ?hw ?_); case hw => rfl) | ((with_reducible refine stopg_clear ?hw ?_); case hw => rfl) | ((with_reducible refine stopg_arr ?hw ?_); case hw => rfl) | ((with_reducible refine stopg_conv (e := 24) (f := 9) ?hw ?_); case hw => rfl) | ((with_reducible refine stopg_idx ?hw ?_); case hw => rfl))
      refine wpl_want rfl (opw_lit1 [(0, .int .u8 (IntKind.u8.wrap (d : Int)))] H Try.underlying24 u8info (by omega) rfl rfl (by simp [Value.oneCell']) ?_)
      intro w3 b H3
      clear H
      obtain ⟨A1, c1, rfl, hc1, hm1, hs⟩ := (H3.get (k := 0) rfl).slice
      go_wp2_with (first | (with_reducible refine stop_box ?_) | (with_reducible refine stop_alloc ?_) | (with_reducible refine stop_load ?_) | (with_reducible refine stop_store ?_) | (with_reducible refine stop_make ?_) | (with_reducible refine stop_lit ?_) | (with_reducible refine stop_append ?_) | (with_reducible refine stop_copy ?_) | (with_reducible refine stop_map ?_) | (with_reducible refine stop_lookup ?_) | (with_reducible refine stop_update ?_) | (with_reducible refine stop_delete ?_) | (with_reducible refine stop_clear ?_) | (with_reducible refine stop_arr ?_) | (with_reducible refine stop_idx ?_) | (with_reducible refine stop_conv (e := 24) (f := 9) ?_) | ((with_reducible refine stopg_box ?hw ?_); case hw => rfl) | ((with_reducible refine stopg_alloc ?hw ?_); case hw => rfl) | ((with_reducible refine stopg_load ?hw ?_); case hw => rfl) | ((with_reducible refine stopg_store ?hw ?_); case hw => rfl) | ((with_reducible refine stopg_make ?hw ?_); case hw => rfl) | ((with_reducible refine stopg_lit ?hw ?_); case hw => rfl) | ((with_reducible refine stopg_append ?hw ?_); case hw => rfl) | ((with_reducible refine stopg_copy ?hw ?_); case hw => rfl) | ((with_reducible refine stopg_map ?hw ?_); case hw => rfl) | ((with_reducible refine stopg_lookup ?hw ?_); case hw => rfl) | ((with_reducible refine stopg_update ?hw ?_); case hw => rfl) | ((with_reducible refine stopg_delete ?hw ?_); case hw => rfl) | ((with_reducible refine stopg_clear ?hw ?_); case hw => rfl) | ((with_reducible refine stopg_arr ?hw ?_); case hw => rfl) | ((with_reducible refine stopg_conv (e := 24) (f := 9) ?hw ?_); case hw => rfl) | ((with_reducible refine stopg_idx ?hw ?_); case hw => rfl))
      refine wpl_want rfl (opw_append (k := 1) (m := k) H3 rfl Try.underlying24 Try.underlying24 u8info rfl (by omega) rfl rfl hs (by simp [bys, highB_length]) (bys_one _) (by omega) (by omega) ?_)
      intro w4 v4 H4
      clear H3 hs
      go_wp2_with (first | (with_reducible refine stop_box ?_) | (with_reducible refine stop_alloc ?_) | (with_reducible refine stop_load ?_) | (with_reducible refine stop_store ?_) | (with_reducible refine stop_make ?_) | (with_reducible refine stop_lit ?_) | (with_reducible refine stop_append ?_) | (with_reducible refine stop_copy ?_) | (with_reducible refine stop_map ?_) | (with_reducible refine stop_lookup ?_) | (with_reducible refine stop_update ?_) | (with_reducible refine stop_delete ?_) | (with_reducible refine stop_clear ?_) | (with_reducible refine stop_arr ?_) | (with_reducible refine stop_idx ?_) | (with_reducible refine stop_conv (e := 24) (f := 9) ?_) | ((with_reducible refine stopg_box ?hw ?_); case hw => rfl) | ((with_reducible refine stopg_alloc ?hw ?_); case hw => rfl) | ((with_reducible refine stopg_load ?hw ?_); case hw => rfl) | ((with_reducible refine stopg_store ?hw ?_); case hw => rfl) | ((with_reducible refine stopg_make ?hw ?_); case hw => rfl) | ((with_reducible refine stopg_lit ?hw ?_); case hw => rfl) | ((with_reducible refine stopg_append ?hw ?_); case hw => rfl) | ((with_reducible refine stopg_copy ?hw ?_); case hw => rfl) | ((with_reducible refine stopg_map ?hw ?_); case hw => rfl) | ((with_reducible refine stopg_lookup ?hw ?_); case hw => rfl) | ((with_reducible refine stopg_update ?hw ?_); case hw => rfl) | ((with_reducible refine stopg_delete ?hw ?_); case hw => rfl) | ((with_reducible refine stopg_clear ?hw ?_); case hw => rfl) | ((with_reducible refine stopg_arr ?hw ?_); case hw => rfl) | ((with_reducible refine stopg_conv (e := 24) (f := 9) ?hw ?_); case hw => rfl) | ((with_reducible refine stopg_idx ?hw ?_); case hw => rfl))
      refine ⟨⟨k + 1, d / 256, by omega, by go_num, ?_, ?_, ?_⟩, by simp [intOf]; omega⟩
      · rw [div256 d (by rw [hd.out]; exact Nat.lt_of_le_of_lt (Nat.div_le_self _ _) hn'.out)]
      · show _ = _
        rw [hd.out, div_step]
      · have e : bys (highB n (k + 1)) = [.int .u8 (IntKind.u8.wrap (d : Int))] ++ bys (highB n k) := by
          unfold highB
          rw [lowB_succ, List.reverse_append, bys_append, byte_of, hd.out]
          rfl
        rw [e, Nat.add_comm k 1]
        exact H4.sub (by simp [fillL])
    · have h1 : k = K := by omega
      subst h1
      rcases hK5.out with h | h
      · subst h
        go_wp2_with (first | (with_reducible refine stop_box ?_) | (with_reducible refine stop_alloc ?_) | (with_reducible refine stop_load ?_) | (with_reducible refine stop_store ?_) | (with_reducible refine stop_make ?_) | (with_reducible refine stop_lit ?_) | (with_reducible refine stop_append ?_) | (with_reducible refine stop_copy ?_) | (with_reducible refine stop_map ?_) | (with_reducible refine stop_lookup ?_) | (with_reducible refine stop_update ?_) | (with_reducible refine stop_delete ?_) | (with_reducible refine stop_clear ?_) | (with_reducible refine stop_arr ?_) | (with_reducible refine stop_idx ?_) | (with_reducible refine stop_conv (e := 24) (f := 9) ?_) | ((with_reducible refine stopg_box ?hw ?_); case hw => rfl) | ((with_reducible refine stopg_alloc ?hw ?_); case hw => rfl) | ((with_reducible refine stopg_load ?hw ?_); case hw => rfl) | ((with_reducible refine stopg_store ?hw ?_); case hw => rfl) | ((with_reducible refine stopg_make ?hw ?_); case hw => rfl) | ((with_reducible refine stopg_lit ?hw ?_); case hw => rfl) | ((with_reducible refine stopg_append ?hw ?_); case hw => rfl) | ((with_reducible refine stopg_copy ?hw ?_); case hw => rfl) | ((with_reducible refine stopg_map ?hw ?_); case hw => rfl) | ((with_reducible refine stopg_lookup ?hw ?_); case hw => rfl) | ((with_reducible refine stopg_update ?hw ?_); case hw => rfl) | ((with_reducible refine stopg_delete ?hw ?_); case hw => rfl) | ((with_reducible refine stopg_clear ?hw ?_); case hw => rfl) | ((with_reducible refine stopg_arr ?hw ?_); case hw => rfl) | ((with_reducible refine stopg_conv (e := 24) (f := 9) ?hw ?_); case hw => rfl) | ((with_reducible refine stopg_idx ?hw ?_); case hw => rfl))
        go_ret
        exact ⟨_, rfl, H⟩
      · subst h
        by_cases hm8 : (8 : Int) < (m : Int)
        · go_wp2_with (first | (with_reducible refine stop_box ?_) | (with_reducible refine stop_alloc ?_) | (with_reducible refine stop_load ?_) | (with_reducible refine stop_store ?_) | (with_reducible refine stop_make ?_) | (with_reducible refine stop_lit ?_) | (with_reducible refine stop_append ?_) | (with_reducible refine stop_copy ?_) | (with_reducible refine stop_map ?_) | (with_reducible refine stop_lookup ?_) | (with_reducible refine stop_update ?_) | (with_reducible refine stop_delete ?_) | (with_reducible refine stop_clear ?_) | (with_reducible refine stop_arr ?_) | (with_reducible refine stop_idx ?_) | (with_reducible refine stop_conv (e := 24) (f := 9) ?_) | ((with_reducible refine stopg_box ?hw ?_); case hw => rfl) | ((with_reducible refine stopg_alloc ?hw ?_); case hw => rfl) | ((with_reducible refine stopg_load ?hw ?_); case hw => rfl) | ((with_reducible refine stopg_store ?hw ?_); case hw => rfl) | ((with_reducible refine stopg_make ?hw ?_); case hw => rfl) | ((with_reducible refine stopg_lit ?hw ?_); case hw => rfl) | ((with_reducible refine stopg_append ?hw ?_); case hw => rfl) | ((with_reducible refine stopg_copy ?hw ?_); case hw => rfl) | ((with_reducible refine stopg_map ?hw ?_); case hw => rfl) | ((with_reducible refine stopg_lookup ?hw ?_); case hw => rfl) | ((with_reducible refine stopg_update ?hw ?_); case hw => rfl) | ((with_reducible refine stopg_delete ?hw ?_); case hw => rfl) | ((with_reducible refine stopg_clear ?hw ?_); case hw => rfl) | ((with_reducible refine stopg_arr ?hw ?_); case hw => rfl) | ((with_reducible refine stopg_conv (e := 24) (f := 9) ?hw ?_); case hw => rfl) | ((with_reducible refine stopg_idx ?hw ?_); case hw => rfl))
          go_ret
          exact ⟨_, rfl, H⟩
        · go_wp2_with (first | (with_reducible refine stop_box ?_) | (with_reducible refine stop_alloc ?_) | (with_reducible refine stop_load ?_) | (with_reducible refine stop_store ?_) | (with_reducible refine stop_make ?_) | (with_reducible refine stop_lit ?_) | (with_reducible refine stop_append ?_) | (with_reducible refine stop_copy ?_) | (with_reducible refine stop_map ?_) | (with_reducible refine stop_lookup ?_) | (with_reducible refine stop_update ?_) | (with_reducible refine stop_delete ?_) | (with_reducible refine stop_clear ?_) | (with_reducible refine stop_arr ?_) | (with_reducible refine stop_idx ?_) | (with_reducible refine stop_conv (e := 24) (f := 9) ?_) | ((with_reducible refine stopg_box ?hw ?_); case hw => rfl) | ((with_reducible refine stopg_alloc ?hw ?_); case hw => rfl) | ((with_reducible refine stopg_load ?hw ?_); case hw => rfl) | ((with_reducible refine stopg_store ?hw ?_); case hw => rfl) | ((with_reducible refine stopg_make ?hw ?_); case hw => rfl) | ((with_reducible refine stopg_lit ?hw ?_); case hw => rfl) | ((with_reducible refine stopg_append ?hw ?_); case hw => rfl) | ((with_reducible refine stopg_copy ?hw ?_); case hw => rfl) | ((with_reducible refine stopg_map ?hw ?_); case hw => rfl) | ((with_reducible refine stopg_lookup ?hw ?_); case hw => rfl) | ((with_reducible refine stopg_update ?hw ?_); case hw => rfl) | ((with_reducible refine stopg_delete ?hw ?_); case hw => rfl) | ((with_reducible refine stopg_clear ?hw ?_); case hw => rfl) | ((with_reducible refine stopg_arr ?hw ?_); case hw => rfl) | ((with_reducible refine stopg_conv (e := 24) (f := 9) ?hw ?_); case hw => rfl) | ((with_reducible refine stopg_idx ?hw ?_); case hw => rfl))
          go_ret
          exact ⟨_, rfl, H⟩

def JoC (w0 : World) (J h b : List Value) (n m : Nat) (u : Value) (s : Nat) (v : Value) (w' : World) : Prop :=
  match s with
  | 0 => St [] w0 [.row 5 1 u n J] w'
  | 1 => St [] w0 [.row 5 1 u n J, .row 5 1 v 4 h] w'
  | 2 => St [] w0 [.row 5 1 v (n + 4) (J ++ h)] w'
  | _ => St [] w0 [.row 5 1 v (n + 4 + m) (J ++ h ++ b)] w'

theorem joinB_part (ls : List (List UInt8)) (k : Nat) : (joinB (ls.take k)).length ≤ (joinB ls).length := by
  have h2 : ∀ (x y : List (List UInt8)), joinB (x ++ y) = joinB x ++ joinB y := by
    intro x y
    induction x with
    | nil => rfl
    | cons a x ih => simp [joinB, ih]
  have h3 := congrArg (fun q => (joinB q).length) (List.take_append_drop k ls)
  simp only [h2, List.length_append] at h3
  omega

set_option maxHeartbeats 800000 in
theorem rjoin_calls (ls : List (List UInt8)) (v0 : Value) (w : World) (hv : RowsAt w v0 ls) (hb : (joinB ls).length ≤ 1000000000) (hn : ls.length ≤ 140737488355328) :
    Calls Try.prog 58 #[v0] w fun e w' => ∃ v, e = .returned v ∧ St [] w [.row 5 1 v (joinB ls).length (bys (joinB ls))] w' := by
  have H := (St.refl w).addNil 5 1
  obtain ⟨A, c, vs, rfl, hc, hA, hvl, hvs⟩ := hv
  have hvl' := Lib.hid hvl
  have hvs' := Lib.hid hvs
  clear hvl hvs
  go_enter Try.func58, Try.ntmps58
  go_wp2_with (first | (with_reducible refine stop_box ?_) | (with_reducible refine stop_alloc ?_) | (with_reducible refine stop_load ?_) | (with_reducible refine stop_store ?_) | (with_reducible refine stop_make ?_) | (with_reducible refine stop_lit ?_) | (with_reducible refine stop_append ?_) | (with_reducible refine stop_copy ?_) | (with_reducible refine stop_map ?_) | (with_reducible refine stop_lookup ?_) | (with_reducible refine stop_update ?_) | (with_reducible refine stop_delete ?_) | (with_reducible refine stop_clear ?_) | (with_reducible refine stop_arr ?_) | (with_reducible refine stop_idx ?_) | (with_reducible refine stop_conv (e := 24) (f := 9) ?_) | ((with_reducible refine stopg_box ?hw ?_); case hw => rfl) | ((with_reducible refine stopg_alloc ?hw ?_); case hw => rfl) | ((with_reducible refine stopg_load ?hw ?_); case hw => rfl) | ((with_reducible refine stopg_store ?hw ?_); case hw => rfl) | ((with_reducible refine stopg_make ?hw ?_); case hw => rfl) | ((with_reducible refine stopg_lit ?hw ?_); case hw => rfl) | ((with_reducible refine stopg_append ?hw ?_); case hw => rfl) | ((with_reducible refine stopg_copy ?hw ?_); case hw => rfl) | ((with_reducible refine stopg_map ?hw ?_); case hw => rfl) | ((with_reducible refine stopg_lookup ?hw ?_); case hw => rfl) | ((with_reducible refine stopg_update ?hw ?_); case hw => rfl) | ((with_reducible refine stopg_delete ?hw ?_); case hw => rfl) | ((with_reducible refine stopg_clear ?hw ?_); case hw => rfl) | ((with_reducible refine stopg_arr ?hw ?_); case hw => rfl) | ((with_reducible refine stopg_conv (e := 24) (f := 9) ?hw ?_); case hw => rfl) | ((with_reducible refine stopg_idx ?hw ?_); case hw => rfl))
  go_loopw [3, 4] (fun v i wr => ∃ (k n : Nat), k ≤ ls.length ∧ i = .int .i64 k ∧ Hid (n = (joinB (ls.take k)).length) ∧ St [] w [.row 5 1 v n (bys (joinB (ls.take k)))] wr) (fun _ i _ => ls.length - (intOf i).toNat)
  case atStart => exact ⟨0, 0, Nat.zero_le _, rfl, rfl, H⟩
  case round =>
    clear H
    obtain ⟨k, n, hk, rfl, hnn, H⟩ := hrel
    by_cases hlt : k < ls.length
    · obtain ⟨b, hx⟩ : ∃ x, ls[k]? = some x := ⟨_, List.getElem?_eq_getElem (by omega)⟩
      obtain ⟨u, hu⟩ : ∃ x, vs[k]? = some x := ⟨_, List.getElem?_eq_getElem (by have := hvl'.out; omega)⟩
      obtain ⟨ad, rfl, hcell⟩ := hA k _ hu
      obtain ⟨B, d, rfl, hd, hB⟩ := hvs'.out k u b hu hx
      have hjs : joinB (ls.take (k + 1)) = joinB (ls.take k) ++ highB b.length 4 ++ b := by
        rw [List.take_add_one, hx]
        exact joinB_snoc _ _
      have hbl : n + 4 + b.length ≤ 1000000000 := by
        have := hnn.out
        have hjl := joinB_part ls (k + 1)
        rw [hjs] at hjl
        simp [highB_length] at hjl
        omega
      have hjs' := Lib.hid hjs
      clear hx hu hjs
      go_wp2_with (first | (with_reducible refine stop_box ?_) | (with_reducible refine stop_alloc ?_) | (with_reducible refine stop_load ?_) | (with_reducible refine stop_store ?_) | (with_reducible refine stop_make ?_) | (with_reducible refine stop_lit ?_) | (with_reducible refine stop_append ?_) | (with_reducible refine stop_copy ?_) | (with_reducible refine stop_map ?_) | (with_reducible refine stop_lookup ?_) | (with_reducible refine stop_update ?_) | (with_reducible refine stop_delete ?_) | (with_reducible refine stop_clear ?_) | (with_reducible refine stop_arr ?_) | (with_reducible refine stop_idx ?_) | (with_reducible refine stop_conv (e := 24) (f := 9) ?_) | ((with_reducible refine stopg_box ?hw ?_); case hw => rfl) | ((with_reducible refine stopg_alloc ?hw ?_); case hw => rfl) | ((with_reducible refine stopg_load ?hw ?_); case hw => rfl) | ((with_reducible refine stopg_store ?hw ?_); case hw => rfl) | ((with_reducible refine stopg_make ?hw ?_); case hw => rfl) | ((with_reducible refine stopg_lit ?hw ?_); case hw => rfl) | ((with_reducible refine stopg_append ?hw ?_); case hw => rfl) | ((with_reducible refine stopg_copy ?hw ?_); case hw => rfl) | ((with_reducible refine stopg_map ?hw ?_); case hw => rfl) | ((with_reducible refine stopg_lookup ?hw ?_); case hw => rfl) | ((with_reducible refine stopg_update ?hw ?_); case hw => rfl) | ((with_reducible refine stopg_delete ?hw ?_); case hw => rfl) | ((with_reducible refine stopg_clear ?hw ?_); case hw => rfl) | ((with_reducible refine stopg_arr ?hw ?_); case hw => rfl) | ((with_reducible refine stopg_conv (e := 24) (f := 9) ?hw ?_); case hw => rfl) | ((with_reducible refine stopg_idx ?hw ?_); case hw => rfl))
      refine wp_region_chain (n := 26) [7, 8, 13, 14] (fun s v w' => JoC w (bys (joinB (ls.take k))) (bys (highB b.length 4)) (bys b) n b.length u3 s v w' ∧ Kept [] w w') (regF [fun v _ => v = u3, fun v _ => v = .slice (some ad) ls.length c, fun v _ => v = .int .i64 k, fun v _ => v = .pointer (some (ad.add k)), fun v _ => v = .slice B b.length d, fun v _ => v = .int .i64 b.length, fun v _ => v = .int .u64 b.length, fun v w' => True, fun v w' => True, fun v _ => v = .slice (some ad) ls.length c, fun v _ => v = .int .i64 k, fun v _ => v = .pointer (some (ad.add k)), fun v _ => v = .slice B b.length d, fun v w' => True, fun v w' => True]) [[], [], [], [(12, 1), (13, 2)], [(14, 3)], [(15, 4)], [(16, 5)], [(17, 6)], [(11, 0), (18, 7)], [], [], [(20, 9), (21, 10)], [(22, 11)], [(19, 8), (23, 12)], [(24, 13), (11, 0), (12, 1), (13, 2), (14, 3), (15, 4), (16, 5), (17, 6), (18, 7), (19, 8), (20, 9), (21, 10), (22, 11), (23, 12)]] [(11, 0), (12, 1), (13, 2), (14, 3), (15, 4), (16, 5), (17, 6), (18, 7), (19, 8), (20, 9), (21, 10), (22, 11), (23, 12), (24, 13), (3, 14)] (by kernel_rfl) (by kernel_rfl) rfl ⟨H.drew, H.kept.drew⟩ ⟨?_, ?_, ?_, ?_, ?_, ?_, ?_, ?_, ?_, ?_, ?_, ?_, ?_, ?_, ?_, trivial⟩ ?_
      · intro s9 v9 vx w9 hs hv9 hC hF
        clear hF
        refine ⟨trivial, ?_⟩
        simp only [putsOf]
        exact opw_val (v := u3) (w' := w9) (by go_simp <;> (simp only [IntKind.wrap_u64, IntKind.wrap_i64] <;> omega)) ⟨_, rfl, by simp, (by rw [if_neg (by decide)]; exact hC), (fun _ _ h => h), rfl⟩
      · intro s9 v9 vx w9 hs hv9 hC hF
        clear hF
        refine ⟨trivial, ?_⟩
        simp only [putsOf]
        exact opw_val (v := .slice (some ad) ls.length c) (w' := w9) (by go_simp <;> (simp only [IntKind.wrap_u64, IntKind.wrap_i64] <;> omega)) ⟨_, rfl, by simp, (by rw [if_neg (by decide)]; exact hC), (fun _ _ h => h), rfl⟩
      · intro s9 v9 vx w9 hs hv9 hC hF
        clear hF
        refine ⟨trivial, ?_⟩
        simp only [putsOf]
        exact opw_val (v := .int .i64 k) (w' := w9) (by go_simp <;> (simp only [IntKind.wrap_u64, IntKind.wrap_i64] <;> omega)) ⟨_, rfl, by simp, (by rw [if_neg (by decide)]; exact hC), (fun _ _ h => h), rfl⟩
      · intro s9 v9 vx w9 hs hv9 hC hF
        have q1 : (vx 1) = .slice (some ad) ls.length c := hF (12, 1) (by simp)
        have q2 : (vx 2) = .int .i64 k := hF (13, 2) (by simp)
        clear hF
        refine ⟨trivial, ?_⟩
        simp only [putsOf, q1, q2]
        exact opw_val (v := .pointer (some (ad.add k))) (w' := w9) (by go_simp <;> (simp only [IntKind.wrap_u64, IntKind.wrap_i64] <;> omega)) ⟨_, rfl, by simp, (by rw [if_neg (by decide)]; exact hC), (fun _ _ h => h), rfl⟩
      · intro s9 v9 vx w9 hs hv9 hC hF
        have q3 : (vx 3) = .pointer (some (ad.add k)) := hF (14, 3) (by simp)
        clear hF
        refine ⟨trivial, ?_⟩
        simp only [putsOf, q3]
        exact opw_load Try.underlying24 rfl rfl (hC.2.cell hcell (by simp)) ⟨_, rfl, by simp, (by rw [if_neg (by decide)]; exact hC), (fun _ _ h => h), rfl⟩
      · intro s9 v9 vx w9 hs hv9 hC hF
        have q4 : (vx 4) = .slice B b.length d := hF (15, 4) (by simp)
        clear hF
        refine ⟨trivial, ?_⟩
        simp only [putsOf, q4]
        exact opw_val (v := .int .i64 b.length) (w' := w9) (by go_simp <;> (simp only [IntKind.wrap_u64, IntKind.wrap_i64] <;> omega)) ⟨_, rfl, by simp, (by rw [if_neg (by decide)]; exact hC), (fun _ _ h => h), rfl⟩
      · intro s9 v9 vx w9 hs hv9 hC hF
        have q5 : (vx 5) = .int .i64 b.length := hF (16, 5) (by simp)
        clear hF
        refine ⟨trivial, ?_⟩
        simp only [putsOf, q5]
        exact opw_val (v := .int .u64 b.length) (w' := w9) (by go_simp <;> (simp only [IntKind.wrap_u64, IntKind.wrap_i64] <;> omega)) ⟨_, rfl, by simp, (by rw [if_neg (by decide)]; exact hC), (fun _ _ h => h), rfl⟩
      · intro s9 v9 vx w9 hs hv9 hC hF
        have q6 : (vx 6) = .int .u64 b.length := hF (17, 6) (by simp)
        clear hF
        obtain rfl : s9 = 0 := by have h9 := hs (by decide); rcases s9 with _ | _ | _ | _ | s9 <;> simp at h9 <;> rfl
        refine ⟨trivial, ?_⟩
        simp only [putsOf, q6]
        have H9 : St [] w [.row 5 1 u3 n (bys (joinB (ls.take k)))] w9 := hC.1
        refine opw_call [.int .u64 b.length, .int .i64 4] Try.func69 rfl (by kernel_rfl) rfl ?_
        refine (rhigh_calls b.length 4 4 rfl (by omega) (by omega) w9).mono ?_
        rintro e w1 ⟨v, rfl, H1⟩
        have H2 : St [] w [.row 5 1 u3 n (bys (joinB (ls.take k))), .row 5 1 v 4 (bys (highB b.length 4))] w1 := H9.join H1
        exact ⟨_, rfl, _, rfl, by simp, (by rw [if_pos (by decide)]; exact ⟨H2, H2.kept⟩), (fun _ _ h => regF_const (by simp [allConst, Const.eq, Const.true]) h), trivial⟩
      · intro s9 v9 vx w9 hs hv9 hC hF
        have q0 : (vx 0) = u3 := hF (11, 0) (by simp)
        have q7 : True := hF (18, 7) (by simp)
        have p7 := q7
        obtain _ := q7
        clear hF
        obtain rfl : s9 = 1 := by have h9 := hs (by decide); rcases s9 with _ | _ | _ | _ | s9 <;> simp at h9 <;> rfl
        obtain rfl : v9 = vx 7 := hv9
        refine ⟨trivial, ?_⟩
        simp only [putsOf, q0]
        have H9 : St [] w [.row 5 1 u3 n (bys (joinB (ls.take k))), .row 5 1 (vx 7) 4 (bys (highB b.length 4))] w9 := hC.1
        obtain ⟨A1, c1, e1, hc1, hm1, hs9⟩ := (H9.get (k := 1) rfl).slice
        rw [e1] at H9 ⊢
        refine opw_append (k := 0) (m := 4) H9 rfl Try.underlying24 Try.underlying24 u8info rfl (by omega) rfl rfl hs9 (by simp [bys, highB_length]) (bys_one _) (by omega) (by omega) ?_
        intro w4 v4 H4
        have H5 : St [] w [.row 5 1 v4 (n + 4) (bys (joinB (ls.take k)) ++ bys (highB b.length 4))] w4 := H4.sub (by simp)
        exact ⟨_, rfl, by simp, (by rw [if_pos (by decide)]; exact ⟨H5, H5.kept⟩), (fun _ _ h => regF_const (by simp [allConst, Const.eq, Const.true]) h), trivial⟩
      · intro s9 v9 vx w9 hs hv9 hC hF
        clear hF
        refine ⟨trivial, ?_⟩
        simp only [putsOf]
        exact opw_val (v := .slice (some ad) ls.length c) (w' := w9) (by go_simp <;> (simp only [IntKind.wrap_u64, IntKind.wrap_i64] <;> omega)) ⟨_, rfl, by simp, (by rw [if_neg (by decide)]; exact hC), (fun _ _ h => h), rfl⟩
      · intro s9 v9 vx w9 hs hv9 hC hF
        clear hF
        refine ⟨trivial, ?_⟩
        simp only [putsOf]
        exact opw_val (v := .int .i64 k) (w' := w9) (by go_simp <;> (simp only [IntKind.wrap_u64, IntKind.wrap_i64] <;> omega)) ⟨_, rfl, by simp, (by rw [if_neg (by decide)]; exact hC), (fun _ _ h => h), rfl⟩
      · intro s9 v9 vx w9 hs hv9 hC hF
        have q9 : (vx 9) = .slice (some ad) ls.length c := hF (20, 9) (by simp)
        have q10 : (vx 10) = .int .i64 k := hF (21, 10) (by simp)
        clear hF
        refine ⟨trivial, ?_⟩
        simp only [putsOf, q9, q10]
        exact opw_val (v := .pointer (some (ad.add k))) (w' := w9) (by go_simp <;> (simp only [IntKind.wrap_u64, IntKind.wrap_i64] <;> omega)) ⟨_, rfl, by simp, (by rw [if_neg (by decide)]; exact hC), (fun _ _ h => h), rfl⟩
      · intro s9 v9 vx w9 hs hv9 hC hF
        have q11 : (vx 11) = .pointer (some (ad.add k)) := hF (22, 11) (by simp)
        clear hF
        refine ⟨trivial, ?_⟩
        simp only [putsOf, q11]
        exact opw_load Try.underlying24 rfl rfl (hC.2.cell hcell (by simp)) ⟨_, rfl, by simp, (by rw [if_neg (by decide)]; exact hC), (fun _ _ h => h), rfl⟩
      · intro s9 v9 vx w9 hs hv9 hC hF
        have q8 : True := hF (19, 8) (by simp)
        have p8 := q8
        obtain _ := q8
        have q12 : (vx 12) = .slice B b.length d := hF (23, 12) (by simp)
        clear hF
        obtain rfl : s9 = 2 := by have h9 := hs (by decide); rcases s9 with _ | _ | _ | _ | s9 <;> simp at h9 <;> rfl
        obtain rfl : v9 = vx 8 := hv9
        refine ⟨trivial, ?_⟩
        simp only [putsOf, q12]
        have H9 : St [] w [.row 5 1 (vx 8) (n + 4) (bys (joinB (ls.take k)) ++ bys (highB b.length 4))] w9 := hC.1
        refine opw_append (k := 0) (m := b.length) H9 rfl Try.underlying24 Try.underlying24 u8info rfl (by omega) rfl rfl (H9.sl0 hB) (by simp [bys]) (bys_one _) (by omega) (by omega) ?_
        intro w4 v4 H4
        have H5 : St [] w [.row 5 1 v4 (n + 4 + b.length) (bys (joinB (ls.take k)) ++ bys (highB b.length 4) ++ bys b)] w4 := H4
        exact ⟨_, rfl, by simp, (by rw [if_pos (by decide)]; exact ⟨H5, H5.kept⟩), (fun _ _ h => regF_const (by simp [allConst, Const.eq, Const.true]) h), trivial⟩
      · intro s9 v9 vx w9 hs hv9 hC hF
        have q13 : True := hF (24, 13) (by simp)
        have p13 := q13
        obtain _ := q13
        have q0 : (vx 0) = u3 := hF (11, 0) (by simp)
        have q1 : (vx 1) = .slice (some ad) ls.length c := hF (12, 1) (by simp)
        have q2 : (vx 2) = .int .i64 k := hF (13, 2) (by simp)
        have q3 : (vx 3) = .pointer (some (ad.add k)) := hF (14, 3) (by simp)
        have q4 : (vx 4) = .slice B b.length d := hF (15, 4) (by simp)
        have q5 : (vx 5) = .int .i64 b.length := hF (16, 5) (by simp)
        have q6 : (vx 6) = .int .u64 b.length := hF (17, 6) (by simp)
        have q7 : True := hF (18, 7) (by simp)
        have p7 := q7
        obtain _ := q7
        have q8 : True := hF (19, 8) (by simp)
        have p8 := q8
        obtain _ := q8
        have q9 : (vx 9) = .slice (some ad) ls.length c := hF (20, 9) (by simp)
        have q10 : (vx 10) = .int .i64 k := hF (21, 10) (by simp)
        have q11 : (vx 11) = .pointer (some (ad.add k)) := hF (22, 11) (by simp)
        have q12 : (vx 12) = .slice B b.length d := hF (23, 12) (by simp)
        clear hF
        obtain rfl : s9 = 3 := by have h9 := hs (by decide); rcases s9 with _ | _ | _ | _ | s9 <;> simp at h9 <;> rfl
        obtain rfl : v9 = vx 13 := hv9
        refine ⟨trivial, ?_⟩
        simp only [putsOf, q0, q1, q2, q3, q4, q5, q6, q9, q10, q11, q12]
        have H5 : St [] w [.row 5 1 (vx 13) (n + 4 + b.length) (bys (joinB (ls.take k)) ++ bys (highB b.length 4) ++ bys b)] w9 := hC.1
        exact opw_val (v := vx 13) (w' := w9) (by go_simp) ⟨_, rfl, by simp, (by rw [if_pos (by decide)]; exact ⟨H5, H5.kept⟩), (fun _ _ h => h), trivial⟩
      intro vx w9 hC hF
      have q0 : (vx 0) = u3 := hF 0 (by simp)
      have q1 : (vx 1) = .slice (some ad) ls.length c := hF 1 (by simp)
      have q2 : (vx 2) = .int .i64 k := hF 2 (by simp)
      have q3 : (vx 3) = .pointer (some (ad.add k)) := hF 3 (by simp)
      have q4 : (vx 4) = .slice B b.length d := hF 4 (by simp)
      have q5 : (vx 5) = .int .i64 b.length := hF 5 (by simp)
      have q6 : (vx 6) = .int .u64 b.length := hF 6 (by simp)
      have q7 : True := hF 7 (by simp)
      have p7 := q7
      obtain _ := q7
      have q8 : True := hF 8 (by simp)
      have p8 := q8
      obtain _ := q8
      have q9 : (vx 9) = .slice (some ad) ls.length c := hF 9 (by simp)
      have q10 : (vx 10) = .int .i64 k := hF 10 (by simp)
      have q11 : (vx 11) = .pointer (some (ad.add k)) := hF 11 (by simp)
      have q12 : (vx 12) = .slice B b.length d := hF 12 (by simp)
      have q13 : True := hF 13 (by simp)
      have p13 := q13
      obtain _ := q13
      have q14 : True := hF 14 (by simp)
      have p14 := q14
      obtain _ := q14
      clear hF
      simp only [putsOf, q0, q1, q2, q3, q4, q5, q6, q9, q10, q11, q12]
      simp only [Act.put, List.setIfInBounds_toArray, List.set_cons_succ, List.set_cons_zero]
      clear q0 q1 q2 q3 q4 q5 q6 q9 q10 q11 q12
      have H5 : St [] w [.row 5 1 (vx 14) (n + 4 + b.length) (bys (joinB (ls.take k)) ++ bys (highB b.length 4) ++ bys b)] w9 := hC.1
      go_wp2_with (first | (with_reducible refine stop_box ?_) | (with_reducible refine stop_alloc ?_) | (with_reducible refine stop_load ?_) | (with_reducible refine stop_store ?_) | (with_reducible refine stop_make ?_) | (with_reducible refine stop_lit ?_) | (with_reducible refine stop_append ?_) | (with_reducible refine stop_copy ?_) | (with_reducible refine stop_map ?_) | (with_reducible refine stop_lookup ?_) | (with_reducible refine stop_update ?_) | (with_reducible refine stop_delete ?_) | (with_reducible refine stop_clear ?_) | (with_reducible refine stop_arr ?_) | (with_reducible refine stop_idx ?_) | (with_reducible refine stop_conv (e := 24) (f := 9) ?_) | ((with_reducible refine stopg_box ?hw ?_); case hw => rfl) | ((with_reducible refine stopg_alloc ?hw ?_); case hw => rfl) | ((with_reducible refine stopg_load ?hw ?_); case hw => rfl) | ((with_reducible refine stopg_store ?hw ?_); case hw => rfl) | ((with_reducible refine stopg_make ?hw ?_); case hw => rfl) | ((with_reducible refine stopg_lit ?hw ?_); case hw => rfl) | ((with_reducible refine stopg_append ?hw ?_); case hw => rfl) | ((with_reducible refine stopg_copy ?hw ?_); case hw => rfl) | ((with_reducible refine stopg_map ?hw ?_); case hw => rfl) | ((with_reducible refine stopg_lookup ?hw ?_); case hw => rfl) | ((with_reducible refine stopg_update ?hw ?_); case hw => rfl) | ((with_reducible refine stopg_delete ?hw ?_); case hw => rfl) | ((with_reducible refine stopg_clear ?hw ?_); case hw => rfl) | ((with_reducible refine stopg_arr ?hw ?_); case hw => rfl) | ((with_reducible refine stopg_conv (e := 24) (f := 9) ?hw ?_); case hw => rfl) | ((with_reducible refine stopg_idx ?hw ?_); case hw => rfl))
      refine ⟨⟨k + 1, n + 4 + b.length, by omega, by go_num, ?_, ?_⟩, by simp [intOf]; omega⟩
      · show _ = _
        rw [hjs'.out, hnn.out]
        simp [highB_length]
        omega
      · rw [hjs'.out, bys_append, bys_append]
        exact H5
    · go_wp2_with (first | (with_reducible refine stop_box ?_) | (with_reducible refine stop_alloc ?_) | (with_reducible refine stop_load ?_) | (with_reducible refine stop_store ?_) | (with_reducible refine stop_make ?_) | (with_reducible refine stop_lit ?_) | (with_reducible refine stop_append ?_) | (with_reducible refine stop_copy ?_) | (with_reducible refine stop_map ?_) | (with_reducible refine stop_lookup ?_) | (with_reducible refine stop_update ?_) | (with_reducible refine stop_delete ?_) | (with_reducible refine stop_clear ?_) | (with_reducible refine stop_arr ?_) | (with_reducible refine stop_idx ?_) | (with_reducible refine stop_conv (e := 24) (f := 9) ?_) | ((with_reducible refine stopg_box ?hw ?_); case hw => rfl) | ((with_reducible refine stopg_alloc ?hw ?_); case hw => rfl) | ((with_reducible refine stopg_load ?hw ?_); case hw => rfl) | ((with_reducible refine stopg_store ?hw ?_); case hw => rfl) | ((with_reducible refine stopg_make ?hw ?_); case hw => rfl) | ((with_reducible refine stopg_lit ?hw ?_); case hw => rfl) | ((with_reducible refine stopg_append ?hw ?_); case hw => rfl) | ((with_reducible refine stopg_copy ?hw ?_); case hw => rfl) | ((with_reducible refine stopg_map ?hw ?_); case hw => rfl) | ((with_reducible refine stopg_lookup ?hw ?_); case hw => rfl) | ((with_reducible refine stopg_update ?hw ?_); case hw => rfl) | ((with_reducible refine stopg_delete ?hw ?_); case hw => rfl) | ((with_reducible refine stopg_clear ?hw ?_); case hw => rfl) | ((with_reducible refine stopg_arr ?hw ?_); case hw => rfl) | ((with_reducible refine stopg_conv (e := 24) (f := 9) ?hw ?_); case hw => rfl) | ((with_reducible refine stopg_idx ?hw ?_); case hw => rfl))
      have : k = ls.length := by omega
      subst this
      go_ret
      rw [List.take_length] at H hnn
      have := hnn.out
      subst this
      exact ⟨_, rfl, H⟩

end Go.Proofs.Ytkadnmoephkklaa
