/- What the document's functions of chapter 07 do. Conditions: lengths. -/
import Derived.Test.YtjllcdgnmdieoaaC06s
import Derived.Test.YtjllcdgnmdieoaaS07c
import Derived.Test.YtjllcdgnmdieoaaVS
import Derived.Test.YtjllcdgnmdieoaaAK
namespace Go.Proofs.Ytjllcdgnmdieoaa
open Go.RowKit Go.PBYtjllcdgnmdieoaa
set_option linter.unusedVariables false
set_option linter.unusedSimpArgs false
set_option maxRecDepth 10000

theorem bit_ofN (x : UInt8) (m : Nat) (hm : m < 8) : decide ((UInt8.ofNat (x.toNat / 2 ^ (min m 8))).toNat % 2 = 1) = (x.toNat / 2 ^ m % 2 == 1) := by
  have h1 := UInt8.toNat_lt x
  have h2 : x.toNat / 2 ^ m < 256 := Nat.lt_of_le_of_lt (Nat.div_le_self _ _) h1
  rw [Nat.min_eq_left (by omega), UInt8.toNat_ofNat_of_lt' h2]
  rw [Bool.eq_iff_iff, decide_eq_true_iff, beq_iff_eq]
set_option maxHeartbeats 1000000 in
theorem rbit_low (k : List UInt8) (i : Nat) (h : i < 3) (hk : k.length = 32) (hi : i ≤ 254) (w : World) :
    Calls Try.prog 23 #[.agg (bys k).toArray, vN i] w fun e w' => e = .returned (.bool false) ∧ Kept [] w w' := by
  refine enter (n := 24) (R := fun e L => e = .returned (.bool false)) [.agg (bys k).toArray, vN i] Try.func23 rfl rfl rfl (St.refl w) ?_ (fun e w' L' h H => ⟨h, H.kept⟩)
  refine VC_seq ?_
  refine VC_region ?_
  refine l_boxA rfl rfl ?_
  intro b2
  refine vl_v (q_assign rfl) rfl ?_
  refine vl_nil ?_
  refine (th_n ?_)
  refine VC_seq ?_
  refine VC_seq ?_
  refine VC_region ?_
  refine vl_v (q_move rfl) rfl ?_
  refine vl_v (q_true (q_lss_n (q := 3) Try.underlying3 rfl rfl) (decide_eq_true h)) rfl ?_
  refine vl_v (q_move rfl) rfl ?_
  refine vl_skip rfl rfl ?_
  refine vl_skip rfl rfl ?_
  first | (refine vl_v (q_pickT rfl rfl) rfl ?_) | (refine vl_v (q_pickF rfl rfl) rfl ?_)
  refine vl_nil ?_
  refine (th_n ?_)
  refine VC_yes (rfl) ?_
  refine VC_seq ?_
  refine VC_region ?_
  refine vl_v (q_assign rfl) rfl ?_
  refine vl_nil ?_
  refine (th_n ?_)
  refine VC_ret ?_
  refine (th_r ?_)
  refine ⟨_, res1 rfl rfl, ?_⟩
  exact rfl
set_option maxHeartbeats 1000000 in
theorem rbit_top (k : List UInt8) (i : Nat) (h : i = 254) (hk : k.length = 32) (hi : i ≤ 254) (w : World) :
    Calls Try.prog 23 #[.agg (bys k).toArray, vN i] w fun e w' => e = .returned (.bool true) ∧ Kept [] w w' := by
  refine enter (n := 24) (R := fun e L => e = .returned (.bool true)) [.agg (bys k).toArray, vN i] Try.func23 rfl rfl rfl (St.refl w) ?_ (fun e w' L' h H => ⟨h, H.kept⟩)
  refine VC_seq ?_
  refine VC_region ?_
  refine l_boxA rfl rfl ?_
  intro b2
  refine vl_v (q_assign rfl) rfl ?_
  refine vl_nil ?_
  refine (th_n ?_)
  refine VC_seq ?_
  refine VC_seq ?_
  refine VC_region ?_
  refine vl_v (q_move rfl) rfl ?_
  refine vl_v (q_false (q_lss_n (q := 3) Try.underlying3 rfl rfl) (by simp; omega)) rfl ?_
  refine vl_v (q_move rfl) rfl ?_
  refine vl_vg rfl (q_move rfl) rfl ?_
  refine vl_vg rfl (q_false (q_eql_n (q := 255) Try.underlying3 rfl rfl) (by simp; omega)) rfl ?_
  first | (refine vl_v (q_pickT rfl rfl) rfl ?_) | (refine vl_v (q_pickF rfl rfl) rfl ?_)
  refine vl_nil ?_
  refine (th_n ?_)
  refine VC_no (rfl) ?_
  refine VC_skip ?_
  refine (th_n ?_)
  refine VC_seq ?_
  refine VC_region ?_
  refine vl_v (q_move rfl) rfl ?_
  refine vl_v (q_true (q_eql_n (q := 254) Try.underlying3 rfl rfl) (decide_eq_true h)) rfl ?_
  refine vl_v (q_move rfl) rfl ?_
  refine vl_skip rfl rfl ?_
  refine vl_skip rfl rfl ?_
  refine vl_skip rfl rfl ?_
  refine vl_skip rfl rfl ?_
  refine vl_skip rfl rfl ?_
  refine vl_skip rfl rfl ?_
  refine vl_skip rfl rfl ?_
  refine vl_skip rfl rfl ?_
  refine vl_skip rfl rfl ?_
  first | (refine vl_v (q_pickT rfl rfl) rfl ?_) | (refine vl_v (q_pickF rfl rfl) rfl ?_)
  refine vl_v (q_assign rfl) rfl ?_
  refine vl_nil ?_
  refine (th_n ?_)
  refine VC_ret ?_
  refine ⟨_, res1 rfl rfl, ?_⟩
  exact rfl
set_option maxHeartbeats 1000000 in
theorem rbit_mid (k : List UInt8) (i : Nat) (h : ¬ i < 3) (h' : ¬ i = 254) (s : Bool) (hs : ((k.getD (i / 8) 0).toNat / 2 ^ (i % 8) % 2 == 1) = s) (hk : k.length = 32) (hi : i ≤ 254) (w : World) :
    Calls Try.prog 23 #[.agg (bys k).toArray, vN i] w fun e w' => e = .returned (.bool s) ∧ Kept [] w w' := by
  refine enter (n := 24) (R := fun e L => e = .returned (.bool s)) [.agg (bys k).toArray, vN i] Try.func23 rfl rfl rfl (St.refl w) ?_ (fun e w' L' h H => ⟨h, H.kept⟩)
  refine VC_seq ?_
  refine VC_region ?_
  refine l_boxA rfl rfl ?_
  intro b2
  refine vl_v (q_assign rfl) rfl ?_
  refine vl_nil ?_
  refine (th_n ?_)
  refine VC_seq ?_
  refine VC_seq ?_
  refine VC_region ?_
  refine vl_v (q_move rfl) rfl ?_
  refine vl_v (q_false (q_lss_n (q := 3) Try.underlying3 rfl rfl) (by simp; omega)) rfl ?_
  refine vl_v (q_move rfl) rfl ?_
  refine vl_vg rfl (q_move rfl) rfl ?_
  refine vl_vg rfl (q_false (q_eql_n (q := 255) Try.underlying3 rfl rfl) (by simp; omega)) rfl ?_
  first | (refine vl_v (q_pickT rfl rfl) rfl ?_) | (refine vl_v (q_pickF rfl rfl) rfl ?_)
  refine vl_nil ?_
  refine (th_n ?_)
  refine VC_no (rfl) ?_
  refine VC_skip ?_
  refine (th_n ?_)
  refine VC_seq ?_
  refine VC_region ?_
  refine vl_v (q_move rfl) rfl ?_
  refine vl_v (q_false (q_eql_n (q := 254) Try.underlying3 rfl rfl) (by simp; omega)) rfl ?_
  refine vl_v (q_move rfl) rfl ?_
  refine vl_vg rfl (q_move rfl) rfl ?_
  refine vl_vg rfl (q_quo_n (q := 8) rfl rfl (by omega) (by omega)) rfl ?_
  first | (refine vl_vg rfl (q_idxA Try.underlying23 sz5 rfl rfl (by omega) (r := _) (by rw [Nat.mul_one, Nat.zero_add])) rfl ?_) | (refine vl_vg rfl (q_idxA Try.underlying23 sz5 rfl rfl (by omega) rfl) rfl ?_)
  first | (refine vl_vg rfl (q_load 0 Try.underlying5 rfl rfl rfl (bys_at (by first | omega | with_reducible assumption | (simp only [bys_length, u32s_length, u64s_length, i64s_length, n64s_length, List.length_append]; omega) | (simp only [List.length_set, List.length_replicate, List.length_map, List.length_append, bys_length, u32s_length, u64s_length, i64s_length, List.length_take, List.length_drop, List.length_cons, List.length_nil, *] <;> first | done | omega) | rfl))) rfl ?_) | (refine vl_vg rfl (q_load 0 Try.underlying5 rfl rfl rfl rfl) rfl ?_)
  refine vl_vg rfl (q_move rfl) rfl ?_
  refine vl_vg rfl (q_rem_n (q := 8) rfl rfl (by omega)) rfl ?_
  refine vl_vg rfl (q_shr_u8 rfl rfl) rfl ?_
  refine vl_vg rfl (q_rem_n (q := 2) rfl rfl (by omega)) rfl ?_
  refine vl_vg rfl (q_as (v := .bool s) (q_eql_n (q := 1) Try.underlying5 rfl rfl) (by rw [bit_ofN _ _ (Nat.mod_lt _ (by decide)), hs])) rfl ?_
  first | (refine vl_v (q_pickT rfl rfl) rfl ?_) | (refine vl_v (q_pickF rfl rfl) rfl ?_)
  refine vl_v (q_assign rfl) rfl ?_
  refine vl_nil ?_
  refine (th_n ?_)
  refine VC_ret ?_
  refine ⟨_, res1 rfl rfl, ?_⟩
  exact rfl
theorem rbit_calls (k : List UInt8) (i : Nat) (s : Bool) (hs : sbit k i = s) (hk : k.length = 32) (hi : i ≤ 254) (w : World) :
    Calls Try.prog 23 #[.agg (bys k).toArray, vN i] w fun e w' => e = .returned (.bool s) ∧ Kept [] w w' := by
  by_cases h : i < 3
  · rw [← hs, show sbit k i = false by unfold sbit; rw [if_pos (.inl h)]]
    exact rbit_low k i h hk hi w
  · by_cases h' : i = 254
    · rw [← hs, show sbit k i = true by unfold sbit; rw [if_neg (by omega), if_pos h']]
      exact rbit_top k i h' hk hi w
    · exact rbit_mid k i h h' s (by rw [← hs]; unfold sbit; rw [if_neg (by omega), if_neg h']) hk hi w
end Go.Proofs.Ytjllcdgnmdieoaa
