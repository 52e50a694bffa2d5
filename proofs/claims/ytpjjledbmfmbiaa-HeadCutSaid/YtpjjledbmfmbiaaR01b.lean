/- What Light, High, Join and Part of palfreyref01 do, and the seat's awake. Conditions: lengths that memory bears. -/
import Derived.Test.YtpjjledbmfmbiaaR01
namespace Go.Proofs.Ytpjjledbmfmbiaa
open Go.RowKit Go.PBYtpjjledbmfmbiaa
set_option linter.unusedVariables false
set_option maxRecDepth 10000
set_option linter.unusedSimpArgs false

set_option maxHeartbeats 400000 in
theorem rhigh_calls (n : Nat) (m K : Nat) (hK : K = min m 8) (hm : m ≤ 1000000000000000) (hn : n < 18446744073709551616) (w : World) :
    Calls Try.prog 21 #[.int .u64 n, .int .i64 m] w fun e w' => ∃ v, e = .returned v ∧ St [] w [.row 5 1 v K (bys (highB n K))] w' := by
  have H := (St.refl w).addNil 5 1
  have hK1 : K ≤ m := by omega
  have hK3 : K ≤ 8 := by omega
  have hK5 := Lib.hid (show K = m ∨ K = 8 by omega)
  have hn' := Lib.hid hn
  clear hK hn
  go_enter Try.func21, Try.ntmps21
  go_wp2_with (first | (with_reducible refine stop_box ?_) | (with_reducible refine stop_alloc ?_) | (with_reducible refine stop_load ?_) | (with_reducible refine stop_store ?_) | (with_reducible refine stop_make ?_) | (with_reducible refine stop_lit ?_) | (with_reducible refine stop_append ?_) | (with_reducible refine stop_copy ?_) | (with_reducible refine stop_map ?_) | (with_reducible refine stop_lookup ?_) | (with_reducible refine stop_update ?_) | (with_reducible refine stop_delete ?_) | (with_reducible refine stop_clear ?_) | (with_reducible refine stop_arr ?_) | (with_reducible refine stop_idx ?_) | (with_reducible refine stop_conv (e := 26) (f := 9) ?_) | ((with_reducible refine stopg_box ?hw ?_); case hw => rfl) | ((with_reducible refine stopg_alloc ?hw ?_); case hw => rfl) | ((with_reducible refine stopg_load ?hw ?_); case hw => rfl) | ((with_reducible refine stopg_store ?hw ?_); case hw => rfl) | ((with_reducible refine stopg_make ?hw ?_); case hw => rfl) | ((with_reducible refine stopg_lit ?hw ?_); case hw => rfl) | ((with_reducible refine stopg_append ?hw ?_); case hw => rfl) | ((with_reducible refine stopg_copy ?hw ?_); case hw => rfl) | ((with_reducible refine stopg_map ?hw ?_); case hw => rfl) | ((with_reducible refine stopg_lookup ?hw ?_); case hw => rfl) | ((with_reducible refine stopg_update ?hw ?_); case hw => rfl) | ((with_reducible refine stopg_delete ?hw ?_); case hw => rfl) | ((with_reducible refine stopg_clear ?hw ?_); case hw => rfl) | ((with_reducible refine stopg_arr ?hw ?_); case hw => rfl) | ((with_reducible refine stopg_conv (e := 26) (f := 9) ?hw ?_); case hw => rfl) | ((with_reducible refine stopg_idx ?hw ?_); case hw => rfl))
  go_loopw [0, 5, 6] (fun q v i wr => ∃ (k d : Nat), k ≤ K ∧ i = .int .i64 k ∧ q = .int .u64 d ∧ Hid (d = n / 2 ^ (8 * k)) ∧ St [] w [.row 5 1 v k (bys (highB n k))] wr) (fun _ _ i _ => K - (intOf i).toNat)
  case atStart => exact ⟨0, n, Nat.zero_le _, rfl, rfl, by simp [Hid], H⟩
  case round =>
    clear H
    obtain ⟨k, d, hk, rfl, rfl, hd, H⟩ := hrel
    by_cases hlt : k < K
    · have h1 : (k : Int) < (m : Int) := by omega
      have h2 : (k : Int) < 8 := by omega
      go_wp2_with (first | (with_reducible refine stop_box ?_) | (with_reducible refine stop_alloc ?_) | (with_reducible refine stop_load ?_) | (with_reducible refine stop_store ?_) | (with_reducible refine stop_make ?_) | (with_reducible refine stop_lit ?_) | (with_reducible refine stop_append ?_) | (with_reducible refine stop_copy ?_) | (with_reducible refine stop_map ?_) | (with_reducible refine stop_lookup ?_) | (with_reducible refine stop_update ?_) | (with_reducible refine stop_delete ?_) | (with_reducible refine stop_clear ?_) | (with_reducible refine stop_arr ?_) | (with_reducible refine stop_idx ?_) | (with_reducible refine stop_conv (e := 26) (f := 9) ?_) | ((with_reducible refine stopg_box ?hw ?_); case hw => rfl) | ((with_reducible refine stopg_alloc ?hw ?_); case hw => rfl) | ((with_reducible refine stopg_load ?hw ?_); case hw => rfl) | ((with_reducible refine stopg_store ?hw ?_); case hw => rfl) | ((with_reducible refine stopg_make ?hw ?_); case hw => rfl) | ((with_reducible refine stopg_lit ?hw ?_); case hw => rfl) | ((with_reducible refine stopg_append ?hw ?_); case hw => rfl) | ((with_reducible refine stopg_copy ?hw ?_); case hw => rfl) | ((with_reducible refine stopg_map ?hw ?_); case hw => rfl) | ((with_reducible refine stopg_lookup ?hw ?_); case hw => rfl) | ((with_reducible refine stopg_update ?hw ?_); case hw => rfl) | ((with_reducible refine stopg_delete ?hw ?_); case hw => rfl) | ((with_reducible refine stopg_clear ?hw ?_); case hw => rfl) | ((with_reducible refine stopg_arr ?hw ?_); case hw => rfl) | ((with_reducible refine stopg_conv (e := 26) (f := 9) ?hw ?_); case hw => rfl) | ((with_reducible refine stopg_idx ?hw ?_); case hw => rfl))
      refine wpl_want rfl (opw_lit1 [(0, .int .u8 (IntKind.u8.wrap (d : Int)))] H Try.underlying26 u8info (by omega) rfl rfl (by simp [Value.oneCell']) ?_)
      intro w3 b H3
      clear H
      obtain ⟨A1, c1, rfl, hc1, hm1, hs⟩ := (H3.get (k := 0) rfl).slice
      go_wp2_with (first | (with_reducible refine stop_box ?_) | (with_reducible refine stop_alloc ?_) | (with_reducible refine stop_load ?_) | (with_reducible refine stop_store ?_) | (with_reducible refine stop_make ?_) | (with_reducible refine stop_lit ?_) | (with_reducible refine stop_append ?_) | (with_reducible refine stop_copy ?_) | (with_reducible refine stop_map ?_) | (with_reducible refine stop_lookup ?_) | (with_reducible refine stop_update ?_) | (with_reducible refine stop_delete ?_) | (with_reducible refine stop_clear ?_) | (with_reducible refine stop_arr ?_) | (with_reducible refine stop_idx ?_) | (with_reducible refine stop_conv (e := 26) (f := 9) ?_) | ((with_reducible refine stopg_box ?hw ?_); case hw => rfl) | ((with_reducible refine stopg_alloc ?hw ?_); case hw => rfl) | ((with_reducible refine stopg_load ?hw ?_); case hw => rfl) | ((with_reducible refine stopg_store ?hw ?_); case hw => rfl) | ((with_reducible refine stopg_make ?hw ?_); case hw => rfl) | ((with_reducible refine stopg_lit ?hw ?_); case hw => rfl) | ((with_reducible refine stopg_append ?hw ?_); case hw => rfl) | ((with_reducible refine stopg_copy ?hw ?_); case hw => rfl) | ((with_reducible refine stopg_map ?hw ?_); case hw => rfl) | ((with_reducible refine stopg_lookup ?hw ?_); case hw => rfl) | ((with_reducible refine stopg_update ?hw ?_); case hw => rfl) | ((with_reducible refine stopg_delete ?hw ?_); case hw => rfl) | ((with_reducible refine stopg_clear ?hw ?_); case hw => rfl) | ((with_reducible refine stopg_arr ?hw ?_); case hw => rfl) | ((with_reducible refine stopg_conv (e := 26) (f := 9) ?hw ?_); case hw => rfl) | ((with_reducible refine stopg_idx ?hw ?_); case hw => rfl))
      refine wpl_want rfl (opw_append (k := 1) (m := k) H3 rfl Try.underlying26 Try.underlying26 u8info rfl (by omega) rfl rfl hs (by simp [bys, highB_length]) (bys_one _) (by omega) (by omega) ?_)
      intro w4 v4 H4
      clear H3 hs
      go_wp2_with (first | (with_reducible refine stop_box ?_) | (with_reducible refine stop_alloc ?_) | (with_reducible refine stop_load ?_) | (with_reducible refine stop_store ?_) | (with_reducible refine stop_make ?_) | (with_reducible refine stop_lit ?_) | (with_reducible refine stop_append ?_) | (with_reducible refine stop_copy ?_) | (with_reducible refine stop_map ?_) | (with_reducible refine stop_lookup ?_) | (with_reducible refine stop_update ?_) | (with_reducible refine stop_delete ?_) | (with_reducible refine stop_clear ?_) | (with_reducible refine stop_arr ?_) | (with_reducible refine stop_idx ?_) | (with_reducible refine stop_conv (e := 26) (f := 9) ?_) | ((with_reducible refine stopg_box ?hw ?_); case hw => rfl) | ((with_reducible refine stopg_alloc ?hw ?_); case hw => rfl) | ((with_reducible refine stopg_load ?hw ?_); case hw => rfl) | ((with_reducible refine stopg_store ?hw ?_); case hw => rfl) | ((with_reducible refine stopg_make ?hw ?_); case hw => rfl) | ((with_reducible refine stopg_lit ?hw ?_); case hw => rfl) | ((with_reducible refine stopg_append ?hw ?_); case hw => rfl) | ((with_reducible refine stopg_copy ?hw ?_); case hw => rfl) | ((with_reducible refine stopg_map ?hw ?_); case hw => rfl) | ((with_reducible refine stopg_lookup ?hw ?_); case hw => rfl) | ((with_reducible refine stopg_update ?hw ?_); case hw => rfl) | ((with_reducible refine stopg_delete ?hw ?_); case hw => rfl) | ((with_reducible refine stopg_clear ?hw ?_); case hw => rfl) | ((with_reducible refine stopg_arr ?hw ?_); case hw => rfl) | ((with_reducible refine stopg_conv (e := 26) (f := 9) ?hw ?_); case hw => rfl) | ((with_reducible refine stopg_idx ?hw ?_); case hw => rfl))
      refine ⟨⟨k + 1, d / 256, by omega, by go_num, ?_, ?_, ?_⟩, by simp [intOf]; omega⟩
      · rw [div256 d (by rw [hd.out]; exact Nat.lt_of_le_of_lt (Nat.div_le_self _ _) hn'.out)]
      · show _ = _
        rw [hd.out, div_step]
      · have e : bys (highB n (k + 1)) = [.int .u8 (IntKind.u8.wrap (d : Int))] ++ bys (highB n k) := by
          unfold highB
          rw [lowB_succ, List.reverse_append, bys_append, byte_of, hd.out]
          rfl
        rw [e, Nat.add_comm k 1]
        exact H4.sub (by simp [fillL])
    · have h1 : k = K := by omega
      subst h1
      rcases hK5.out with h | h
      · subst h
        go_wp2_with (first | (with_reducible refine stop_box ?_) | (with_reducible refine stop_alloc ?_) | (with_reducible refine stop_load ?_) | (with_reducible refine stop_store ?_) | (with_reducible refine stop_make ?_) | (with_reducible refine stop_lit ?_) | (with_reducible refine stop_append ?_) | (with_reducible refine stop_copy ?_) | (with_reducible refine stop_map ?_) | (with_reducible refine stop_lookup ?_) | (with_reducible refine stop_update ?_) | (with_reducible refine stop_delete ?_) | (with_reducible refine stop_clear ?_) | (with_reducible refine stop_arr ?_) | (with_reducible refine stop_idx ?_) | (with_reducible refine stop_conv (e := 26) (f := 9) ?_) | ((with_reducible refine stopg_box ?hw ?_); case hw => rfl) | ((with_reducible refine stopg_alloc ?hw ?_); case hw => rfl) | ((with_reducible refine stopg_load ?hw ?_); case hw => rfl) | ((with_reducible refine stopg_store ?hw ?_); case hw => rfl) | ((with_reducible refine stopg_make ?hw ?_); case hw => rfl) | ((with_reducible refine stopg_lit ?hw ?_); case hw => rfl) | ((with_reducible refine stopg_append ?hw ?_); case hw => rfl) | ((with_reducible refine stopg_copy ?hw ?_); case hw => rfl) | ((with_reducible refine stopg_map ?hw ?_); case hw => rfl) | ((with_reducible refine stopg_lookup ?hw ?_); case hw => rfl) | ((with_reducible refine stopg_update ?hw ?_); case hw => rfl) | ((with_reducible refine stopg_delete ?hw ?_); case hw => rfl) | ((with_reducible refine stopg_clear ?hw ?_); case hw => rfl) | ((with_reducible refine stopg_arr ?hw ?_); case hw => rfl) | ((with_reducible refine stopg_conv (e := 26) (f := 9) ?hw ?_); case hw => rfl) | ((with_reducible refine stopg_idx ?hw ?_); case hw => rfl))
        go_ret
        exact ⟨_, rfl, H⟩
      · subst h
        by_cases hm8 : (8 : Int) < (m : Int)
        · go_wp2_with (first | (with_reducible refine stop_box ?_) | (with_reducible refine stop_alloc ?_) | (with_reducible refine stop_load ?_) | (with_reducible refine stop_store ?_) | (with_reducible refine stop_make ?_) | (with_reducible refine stop_lit ?_) | (with_reducible refine stop_append ?_) | (with_reducible refine stop_copy ?_) | (with_reducible refine stop_map ?_) | (with_reducible refine stop_lookup ?_) | (with_reducible refine stop_update ?_) | (with_reducible refine stop_delete ?_) | (with_reducible refine stop_clear ?_) | (with_reducible refine stop_arr ?_) | (with_reducible refine stop_idx ?_) | (with_reducible refine stop_conv (e := 26) (f := 9) ?_) | ((with_reducible refine stopg_box ?hw ?_); case hw => rfl) | ((with_reducible refine stopg_alloc ?hw ?_); case hw => rfl) | ((with_reducible refine stopg_load ?hw ?_); case hw => rfl) | ((with_reducible refine stopg_store ?hw ?_); case hw => rfl) | ((with_reducible refine stopg_make ?hw ?_); case hw => rfl) | ((with_reducible refine stopg_lit ?hw ?_); case hw => rfl) | ((with_reducible refine stopg_append ?hw ?_); case hw => rfl) | ((with_reducible refine stopg_copy ?hw ?_); case hw => rfl) | ((with_reducible refine stopg_map ?hw ?_); case hw => rfl) | ((with_reducible refine stopg_lookup ?hw ?_); case hw => rfl) | ((with_reducible refine stopg_update ?hw ?_); case hw => rfl) | ((with_reducible refine stopg_delete ?hw ?_); case hw => rfl) | ((with_reducible refine stopg_clear ?hw ?_); case hw => rfl) | ((with_reducible refine stopg_arr ?hw ?_); case hw => rfl) | ((with_reducible refine stopg_conv (e := 26) (f := 9) ?hw ?_); case hw => rfl) | ((with_reducible refine stopg_idx ?hw ?_); case hw => rfl))
          go_ret
          exact ⟨_, rfl, H⟩
        · go_wp2_with (first | (with_reducible refine stop_box ?_) | (with_reducible refine stop_alloc ?_) | (with_reducible refine stop_load ?_) | (with_reducible refine stop_store ?_) | (with_reducible refine stop_make ?_) | (with_reducible refine stop_lit ?_) | (with_reducible refine stop_append ?_) | (with_reducible refine stop_copy ?_) | (with_reducible refine stop_map ?_) | (with_reducible refine stop_lookup ?_) | (with_reducible refine stop_update ?_) | (with_reducible refine stop_delete ?_) | (with_reducible refine stop_clear ?_) | (with_reducible refine stop_arr ?_) | (with_reducible refine stop_idx ?_) | (with_reducible refine stop_conv (e := 26) (f := 9) ?_) | ((with_reducible refine stopg_box ?hw ?_); case hw => rfl) | ((with_reducible refine stopg_alloc ?hw ?_); case hw => rfl) | ((with_reducible refine stopg_load ?hw ?_); case hw => rfl) | ((with_reducible refine stopg_store ?hw ?_); case hw => rfl) | ((with_reducible refine stopg_make ?hw ?_); case hw => rfl) | ((with_reducible refine stopg_lit ?hw ?_); case hw => rfl) | ((with_reducible refine stopg_append ?hw ?_); case hw => rfl) | ((with_reducible refine stopg_copy ?hw ?_); case hw => rfl) | ((with_reducible refine stopg_map ?hw ?_); case hw => rfl) | ((with_reducible refine stopg_lookup ?hw ?_); case hw => rfl) | ((with_reducible refine stopg_update ?hw ?_); case hw => rfl) | ((with_reducible refine stopg_delete ?hw ?_); case hw => rfl) | ((with_reducible refine stopg_clear ?hw ?_); case hw => rfl) | ((with_reducible refine stopg_arr ?hw ?_); case hw => rfl) | ((with_reducible refine stopg_conv (e := 26) (f := 9) ?hw ?_); case hw => rfl) | ((with_reducible refine stopg_idx ?hw ?_); case hw => rfl))
          go_ret
          exact ⟨_, rfl, H⟩

def JoC (w0 : World) (J h b : List Value) (n m : Nat) (u : Value) (s : Nat) (v : Value) (w' : World) : Prop :=
  match s with
  | 0 => St [] w0 [.row 5 1 u n J] w'
  | 1 => St [] w0 [.row 5 1 u n J, .row 5 1 v 4 h] w'
  | 2 => St [] w0 [.row 5 1 v (n + 4) (J ++ h)] w'
  | _ => St [] w0 [.row 5 1 v (n + 4 + m) (J ++ h ++ b)] w'

theorem joinB_part (ls : List (List UInt8)) (k : Nat) : (joinB (ls.take k)).length ≤ (joinB ls).length := by
  have h2 : ∀ (x y : List (List UInt8)), joinB (x ++ y) = joinB x ++ joinB y := by
    intro x y
    induction x with
    | nil => rfl
    | cons a x ih => simp [joinB, ih]
  have h3 := congrArg (fun q => (joinB q).length) (List.take_append_drop k ls)
  simp only [h2, List.length_append] at h3
  omega

end Go.Proofs.Ytpjjledbmfmbiaa
