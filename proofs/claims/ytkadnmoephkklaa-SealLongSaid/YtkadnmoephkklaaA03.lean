/- Chapter 3: keys come; a key as an argument. No condition. -/
import Derived.Test.YtkadnmoephkklaaC03f
import Derived.Test.YtkadnmoephkklaaPF
namespace Go.Proofs.Ytkadnmoephkklaa
open Go.RowKit Go.PBYtkadnmoephkklaa
set_option linter.unusedVariables false
set_option linter.unusedSimpArgs false
set_option maxRecDepth 100000

theorem laid03 : laidOutB Try.prog = true := by kernel_rfl
theorem flat32 : Flat Try.prog 23 (List.replicate 32 .u8) :=
  flat_of (m := 3) laid03 (by omega) (of_decide_eq_true (by kernel_rfl)) (by kernel_rfl) (by kernel_rfl) (by kernel_rfl) (by kernel_rfl) (by kernel_rfl) (by kernel_rfl)
theorem spread32 (k p : List UInt8) : spread k p 32 = macB k (p ++ [1]) := by
  rw [spread, List.take_of_length_le (by rw [sprOut_length]; omega), show (32 + 31) / 32 = 1 from rfl, sprOut, sprOut, sprLast, sprLast, List.nil_append, List.nil_append, show UInt8.ofNat (0 + 1) = 1 from rfl]
theorem keyPart {k : List UInt8} : ∀ {ps : List (List UInt8)} {more : List Value} (j : Nat), j < ps.length → ∀ o, o = 32 * j → ((bys (keysB k ps) ++ more).drop o).take 32 = bys (spread k (ps.getD j []) 32)
  | [], _, j, h, _, _ => by simp at h
  | p :: r, more, 0, h, o, ho => by
    subst ho
    have e : keysB k (p :: r) = spread k p 32 ++ keysB k r := rfl
    rw [e, bys_append, Nat.mul_zero, List.drop_zero, List.append_assoc, List.take_left' (by rw [bys_length, spread_length])]
    rfl
  | p :: r, more, j + 1, h, o, ho => by
    have e : keysB k (p :: r) = spread k p 32 ++ keysB k r := rfl
    rw [e, bys_append, List.append_assoc, ho, show 32 * (j + 1) = 32 + 32 * j by omega, ← List.drop_drop, List.drop_left' (by rw [bys_length, spread_length]), keyPart j (by simpa using h) _ rfl]
    rfl
def k1 : List UInt8 := 1 :: List.replicate 31 0
theorem aw03a : decide (spread k1 [97] 32 = spread k1 [98] 32) = false := by rw [spread32, spread32]; kernel_rfl
theorem aw03b : ((sprOut k1 [97] 2).getD 3 0).toNat = ((keysB k1 [[97], [98]]).getD 3 0).toNat := by
  have e : keysB k1 [[97], [98]] = macB k1 ([97] ++ [1]) ++ macB k1 ([98] ++ [1]) := by
    show spread k1 [97] 32 ++ (spread k1 [98] 32 ++ []) = _
    rw [spread32, spread32, List.append_nil]
  have e2 : sprOut k1 [97] 2 = macB k1 ([97] ++ [1]) ++ sprLast k1 [97] 2 := by
    rw [sprOut, sprOut, sprOut, List.nil_append, sprLast, sprLast, List.nil_append, show UInt8.ofNat (0 + 1) = 1 from rfl]
  have hl := macB_length k1 ([97] ++ [1])
  rw [e, e2]
  simp only [List.getD_eq_getElem?_getD]
  rw [List.getElem?_append_left (by omega), List.getElem?_append_left (by omega)]

set_option maxHeartbeats 2000000 in
theorem awake3_calls (w : World) : Calls Try.prog 17 #[] w fun e w' => e = .returned (.bool true) ∧ Kept [] w w' := by
  have hs2 := sprOut_length k1 [97] 2
  have hkl := keysB_length k1 [[97], [98]]
  have hs97 := spread_length k1 [97] 32
  have hs98 := spread_length k1 [98] 32
  refine enter (n := 43) (R := fun e L => e = .returned (.bool true)) [] Try.func17 rfl rfl rfl (St.refl w) ?_ (fun e w' L' h H => ⟨h, H.kept⟩)
  refine VC_seq ?_
  refine VC_region ?_
  refine vl_v (q_assign rfl) rfl ?_
  refine vl_nil ?_
  refine (th_n ?_)
  refine VC_seq ?_
  refine VC_region ?_
  refine vl_v (q_build (c' := bys k1) rfl (by kernel_rfl)) rfl ?_
  refine l_litA (cs := strs [[97], [98]]) Try.underlying31 in9 (by decide) rfl rfl rfl rfl (one_all rfl) rfl rfl ?_
  intro b5
  refine l_callR Try.func22 rfl rfl rfl (fun w1 H1 => keys_calls k1 [[97], [98]] _ 2 2 rfl rfl (by decide) (by decide) w1 (Reads.row 0 rfl w1 H1) (by omega)) rfl ?_
  intro A6 c6 hc6 hm6
  refine vl_v (q_assign rfl) rfl ?_
  refine vl_nil ?_
  refine (th_n ?_)
  refine VC_seq ?_
  refine VC_rowBlk (by omega) ?_
  intro bK more eA
  subst eA
  refine VC_region ?_
  refine vl_v (q_build (c' := bys k1) rfl (by kernel_rfl)) rfl ?_
  refine l_call (F := fun v L' => ∃ A8 c8, v = .tuple #[.slice A8 40 40, .int .i64 0] ∧ L' = [.row 5 1 (.slice A8 64 c8) 64 (bys (sprOut k1 [97] 2)), .blk bK 23 (bys (keysB k1 [[97], [98]]) ++ more)]) Try.func18 rfl rfl rfl (fun w1 H1 => (spread_calls k1 [97] 40 rfl (by decide) (by omega) w1).mono fun e w' h => ?_) rfl ?_
  · obtain ⟨A8, c8, h1, h2⟩ := h
    exact ⟨_, _, h1, ⟨A8, c8, rfl, rfl⟩, ((H1.join h2).perm List.perm_append_comm).pick (ks := [0, 1]) (by decide) rfl⟩
  rintro v L' ⟨A8, c8, rfl, rfl⟩
  refine vl_v (q_move rfl) rfl ?_
  refine vl_v (q_ext rfl rfl) rfl ?_
  refine vl_v (q_ext rfl rfl) rfl ?_
  refine vl_v (q_assign rfl) rfl ?_
  refine vl_v (q_assign rfl) rfl ?_
  refine vl_nil ?_
  refine (th_n ?_)
  refine VC_seq ?_
  refine VC_rowBlk (by omega) ?_
  intro bS mS eA
  subst eA
  refine VC_drawV 29 [[], [0], [1], [2], [3], [4, 3], [5, 3], [3], [7, 3], [8, 3], [6, 9, 3], [3, 10], [11, 3], [12], [13, 12], [12, 14], [15, 12], [16], [17, 16], [18, 16], [16, 19], [20, 16], [21], [22, 21], [23, 21], [21], [25, 21], [26, 21], [27, 21], [24, 28, 21], [21, 29], [30, 21, 0, 1, 2, 3, 4, 5, 6, 7, 8, 9, 10, 11, 12, 13, 14, 15, 16, 17, 18, 19, 20, 22, 23, 24, 25, 26, 27, 28, 29]] [[], [0], [0, 1], [0, 1, 2], [0, 1, 2, 3], [0, 1, 2, 3, 4], [0, 1, 2, 3, 4, 5], [0, 1, 2, 3], [0, 1, 2, 3, 7], [0, 1, 2, 3, 7, 8], [0, 1, 2, 3, 4, 5, 6, 7, 8, 9], [0, 1, 2, 3, 4, 5, 6, 7, 8, 9, 10], [0, 1, 2, 3, 4, 5, 6, 7, 8, 9, 10, 11], [0, 1, 2, 3, 4, 5, 6, 7, 8, 9, 10, 11, 12], [0, 1, 2, 3, 4, 5, 6, 7, 8, 9, 10, 11, 12, 13], [0, 1, 2, 3, 4, 5, 6, 7, 8, 9, 10, 11, 12, 13, 14], [0, 1, 2, 3, 4, 5, 6, 7, 8, 9, 10, 11, 12, 13, 14, 15], [0, 1, 2, 3, 4, 5, 6, 7, 8, 9, 10, 11, 12, 13, 14, 15, 16], [0, 1, 2, 3, 4, 5, 6, 7, 8, 9, 10, 11, 12, 13, 14, 15, 16, 17], [0, 1, 2, 3, 4, 5, 6, 7, 8, 9, 10, 11, 12, 13, 14, 15, 16, 17, 18], [0, 1, 2, 3, 4, 5, 6, 7, 8, 9, 10, 11, 12, 13, 14, 15, 16, 17, 18, 19], [0, 1, 2, 3, 4, 5, 6, 7, 8, 9, 10, 11, 12, 13, 14, 15, 16, 17, 18, 19, 20], [0, 1, 2, 3, 4, 5, 6, 7, 8, 9, 10, 11, 12, 13, 14, 15, 16, 17, 18, 19, 20, 21], [0, 1, 2, 3, 4, 5, 6, 7, 8, 9, 10, 11, 12, 13, 14, 15, 16, 17, 18, 19, 20, 21, 22], [0, 1, 2, 3, 4, 5, 6, 7, 8, 9, 10, 11, 12, 13, 14, 15, 16, 17, 18, 19, 20, 21, 22, 23], [0, 1, 2, 3, 4, 5, 6, 7, 8, 9, 10, 11, 12, 13, 14, 15, 16, 17, 18, 19, 20, 21], [0, 1, 2, 3, 4, 5, 6, 7, 8, 9, 10, 11, 12, 13, 14, 15, 16, 17, 18, 19, 20, 21, 25], [0, 1, 2, 3, 4, 5, 6, 7, 8, 9, 10, 11, 12, 13, 14, 15, 16, 17, 18, 19, 20, 21, 25, 26], [0, 1, 2, 3, 4, 5, 6, 7, 8, 9, 10, 11, 12, 13, 14, 15, 16, 17, 18, 19, 20, 21, 25, 26, 27], [0, 1, 2, 3, 4, 5, 6, 7, 8, 9, 10, 11, 12, 13, 14, 15, 16, 17, 18, 19, 20, 21, 22, 23, 24, 25, 26, 27, 28], [0, 1, 2, 3, 4, 5, 6, 7, 8, 9, 10, 11, 12, 13, 14, 15, 16, 17, 18, 19, 20, 21, 22, 23, 24, 25, 26, 27, 28, 29], [0, 1, 2, 3, 4, 5, 6, 7, 8, 9, 10, 11, 12, 13, 14, 15, 16, 17, 18, 19, 20, 21, 22, 23, 24, 25, 26, 27, 28, 29, 30]] rfl (by kernel_rfl) ?_
  refine qv_v (q_move rfl) ?_
  refine qv_v (q_lenS Try.underlying32 rfl) ?_
  refine qv_v (q_true (q_eql_n (q := 2) Try.underlying3 rfl rfl) (decide_eq_true rfl)) ?_
  refine qv_v (q_move rfl) ?_
  refine qv_vg (rfl) (q_move rfl) ?_
  refine qv_vg (rfl) (q_idxS0 (m := 0) Try.underlying32 sz23 rfl rfl (by omega) rfl) ?_
  refine qv_vg (rfl) (q_loadsAt (vs := bys (spread k1 [97] 32)) 1 Try.underlying23 rfl rfl rfl sz23 (keyPart 0 (by decide) _ rfl) (by rw [bys_length, hs97])) ?_
  refine qv_vg (rfl) (q_move rfl) ?_
  refine qv_vg (rfl) (q_idxS0 (m := 1) Try.underlying32 sz23 rfl rfl (by omega) rfl) ?_
  refine qv_vg (rfl) (q_loadsAt (vs := bys (spread k1 [98] 32)) 1 Try.underlying23 rfl rfl rfl sz23 (keyPart 1 (by decide) _ rfl) (by rw [bys_length, hs98])) ?_
  refine qv_vg (rfl) (q_as (v := .bool true) (q_neB flat32 rfl rfl (fits_bys' hs97) (fits_bys' hs98)) (by rw [aw03a]; rfl)) ?_
  first | (refine qv_v (q_pickT rfl rfl) ?_) | (refine qv_v (q_pickF rfl rfl) ?_)
  refine qv_v (q_move rfl) ?_
  refine qv_vg (rfl) (q_move rfl) ?_
  refine qv_vg (rfl) (q_true (q_eql_n (q := 0) Try.underlying26 rfl rfl) (decide_eq_true rfl)) ?_
  first | (refine qv_v (q_pickT rfl rfl) ?_) | (refine qv_v (q_pickF rfl rfl) ?_)
  refine qv_v (q_move rfl) ?_
  refine qv_vg (rfl) (q_move rfl) ?_
  refine qv_vg (rfl) (q_lenS Try.underlying24 rfl) ?_
  refine qv_vg (rfl) (q_true (q_eql_n (q := 40) Try.underlying3 rfl rfl) (decide_eq_true rfl)) ?_
  first | (refine qv_v (q_pickT rfl rfl) ?_) | (refine qv_v (q_pickF rfl rfl) ?_)
  refine qv_v (q_move rfl) ?_
  refine qv_vg (rfl) (q_move rfl) ?_
  refine qv_vg (rfl) (q_idxS0 (m := 3) Try.underlying24 sz5 rfl rfl (by omega) (by rw [Nat.mul_one, Nat.zero_add])) ?_
  first | (refine qv_vg (rfl) (q_load 0 Try.underlying5 rfl rfl rfl (bys_atA (by first | omega | with_reducible assumption | (simp only [zb, zu, zw, zi, za]; omega) | (simp only [zs, zr, zm, za, zb, zu, zw, zi, zt, zd, zc, zn, *] <;> first | done | omega) | rfl))) ?_) | (refine qv_vg (rfl) (q_load 0 Try.underlying5 rfl rfl rfl rfl) ?_)
  refine qv_vg (rfl) (q_move rfl) ?_
  refine qv_vg (rfl) (q_idxS0 (m := 0) Try.underlying32 sz23 rfl rfl (by omega) rfl) ?_
  first | (refine qv_vg (rfl) (q_idxA (m := 3) Try.underlying23 sz5 rfl rfl (by omega) (r := _) (by rw [Nat.mul_one, Nat.zero_add])) ?_) | (refine qv_vg (rfl) (q_idxA (m := 3) Try.underlying23 sz5 rfl rfl (by omega) rfl) ?_)
  first | (refine qv_vg (rfl) (q_load 1 Try.underlying5 rfl rfl rfl (bys_atA (by first | omega | with_reducible assumption | (simp only [zb, zu, zw, zi, za]; omega) | (simp only [zs, zr, zm, za, zb, zu, zw, zi, zt, zd, zc, zn, *] <;> first | done | omega) | rfl))) ?_) | (refine qv_vg (rfl) (q_load 1 Try.underlying5 rfl rfl rfl rfl) ?_)
  refine qv_end ?_
  refine VL.keep (Sub.cons (s := 0) rfl (Sub.cons (s := 1) rfl (Sub.cons (s := 2) rfl (Sub.cons (s := 3) rfl (Sub.cons (s := 33) rfl (Sub.cons (s := 36) rfl (Sub.cons (s := 40) rfl (Sub.nil _)))))))) ?_
  refine vl_vg rfl (q_true (q_eql_n Try.underlying5 rfl rfl) (decide_eq_true aw03b)) rfl ?_
  first | (refine vl_v (q_pickT rfl rfl) rfl ?_) | (refine vl_v (q_pickF rfl rfl) rfl ?_)
  refine vl_v (q_assign rfl) rfl ?_
  refine vl_nil ?_
  refine (qn_n (th_n ?_))
  refine VC_ret ?_
  refine ⟨_, res1 rfl rfl, ?_⟩
  exact rfl

def KeyV (v : Value) (k : List UInt8) : Prop := v = .agg (bys k).toArray ∧ k.length = 32
theorem open_key {cs : List Value} (h : Fits cs (List.replicate 32 .u8)) : ∃ k, KeyV (.agg cs.toArray) k := by
  obtain ⟨k, hk, rfl⟩ := h.bytes
  exact ⟨k, rfl, hk⟩
end Go.Proofs.Ytkadnmoephkklaa
