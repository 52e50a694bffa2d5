/- Keys of the one are no keys of the other one: the statement SkipsWhose. No condition. -/
import Derived.Test.YtngdppffcdhhlaaRows
import Derived.Test.YtngdppffcdhhlaaA11
namespace Go.Proofs.Ytngdppffcdhhlaa
open Go.RowKit Go.PBYtngdppffcdhhlaa
set_option linter.unusedVariables false
set_option linter.unusedSimpArgs false
set_option maxRecDepth 10000

def Keys3V (v : Value) (q : List UInt8 × List UInt8 × List UInt8) : Prop := v = .agg (bys (q.1 ++ q.2.1 ++ q.2.2)).toArray ∧ q.1.length = 32 ∧ q.2.1.length = 32 ∧ q.2.2.length = 32
theorem open_keys3 {cs : List Value} (h : Fits cs (List.replicate 96 .u8)) : ∃ q, Keys3V (.agg cs.toArray) q := by
  obtain ⟨l, hl, rfl⟩ := h.bytes
  refine ⟨(l.take 32, (l.drop 32).take 32, l.drop 64), ?_, ?_, ?_, ?_⟩
  · rw [List.append_assoc, show l.drop 64 = (l.drop 32).drop 32 by rw [List.drop_drop], List.take_append_drop, List.take_append_drop]
  · simp; omega
  · simp; omega
  · simp; omega
theorem ask_one (a : List UInt8) (n : Int) (k : List UInt8) : askR [⟨a, n, k⟩] (a, n) = (k, true) := by simp [askR, Ent.key]
theorem ask_other {a b : List UInt8} (n : Int) (k : List UInt8) (h : ¬ a = b) : askR [⟨a, n, k⟩] (b, n) = (zKey, false) := by simp [askR, Ent.key, h]
theorem take_one (a : List UInt8) (n : Int) (k : List UInt8) : takeR [⟨a, n, k⟩] (a, n) = [] := by simp [takeR, Ent.key]
theorem take_other {a b : List UInt8} (n : Int) (k : List UInt8) (h : ¬ a = b) : takeR [⟨a, n, k⟩] (b, n) = [⟨a, n, k⟩] := by simp [takeR, Ent.key, h]
theorem put_one {a : List UInt8} {n : Int} (k : List UInt8) (h : 0 ≤ n) : putR [] ⟨a, n, k⟩ = (0, [⟨a, n, k⟩]) := by simp [putR]; omega
theorem good_one {a : List UInt8} {n : Int} {k : List UInt8} (la : a.length = 32) (lk : k.length = 32) (hw : (Lit.int .i64 n).wf = true) : GoodL [⟨a, n, k⟩] := ⟨fun e he => by rw [List.mem_singleton.1 he]; exact ⟨la, lk, hw⟩, by simp⟩
set_option maxHeartbeats 2000000 in
theorem whose_same (a b k : List UInt8) (n : Int) (la : a.length = 32) (lb : b.length = 32) (lk : k.length = 32) (hw : (Lit.int .i64 n).wf = true) (h0 : 0 ≤ n) (hab : a = b) (w : World) :
    Calls Try.prog 5 #[.agg (bys (a ++ b ++ k)).toArray, vI n] w fun e w' => e = .returned (.bool true) ∧ Kept [] w w' := by
  have lz := zKey_length
  have e1 : ((bys (a ++ b ++ k)).drop 0).take 32 = bys a := by rw [List.drop_zero, bys_take, List.append_assoc, List.take_left' la]
  have e2 : ((bys (a ++ b ++ k)).drop 32).take 32 = bys b := by rw [bys_drop, bys_take, List.append_assoc, List.drop_left' la, List.take_left' lb]
  have e3 : ((bys (a ++ b ++ k)).drop 64).take 32 = bys k := by rw [bys_drop, bys_take, List.drop_left' (by rw [List.length_append]; omega), List.take_of_length_le (by omega)]
  obtain ⟨x, hxx⟩ : ∃ x, bys (a ++ b ++ k) = x := ⟨_, rfl⟩
  have lx : x.length = 96 := by rw [← hxx, bys_length, List.length_append, List.length_append]; omega
  rw [hxx] at e1 e2 e3 ⊢
  refine enter (n := 100) (R := fun e L => e = .returned (.bool true)) [.agg x.toArray, vI n] Try.func5 rfl rfl rfl (St.refl w) ?_ (fun e w' L' h H => ⟨h, H.kept⟩)
  refine VC_seq ?_
  refine VC_region ?_
  refine l_boxA rfl rfl ?_
  intro b2
  refine vl_v (q_assign rfl) rfl ?_
  refine vl_nil ?_
  refine (th_n ?_)
  refine VC_seq ?_
  refine VC_region ?_
  refine vl_v (q_callV Try.func8 rfl rfl rfl (fun w1 H1 => awake11_calls w1)) rfl ?_
  refine vl_v (q_assign rfl) rfl ?_
  refine vl_nil ?_
  refine (th_n ?_)
  refine VC_seq ?_
  refine VC_region ?_
  refine vl_v (q_idxA (m := 0) Try.underlying35 sz23 rfl rfl (by omega) rfl) rfl ?_
  refine vl_v (q_loadsAt (vs := bys a) 0 Try.underlying23 rfl rfl rfl sz23 e1 (by rw [bys_length, la])) rfl ?_
  refine l_allocA zr23 rfl ?_
  intro b6
  refine l_storeA 0 rfl rfl rfl sz23 (by first | omega | with_reducible assumption | (simp only [zb, zu, zw, zi, za]; omega) | (simp only [zs, zr, zm, za, zb, zu, zw, zi, zt, zd, zc, zn, *] <;> first | done | omega) | rfl) (by first | (with_reducible first | exact bys_one _ | exact u32s_one _ | exact u64s_one _ | exact i64s_one _ | exact n64s_one _ | assumption) | exact bys_one _ | exact u32s_one _ | exact u64s_one _ | exact i64s_one _ | exact one_all rfl | (refine app_one ?_ ?_ <;> first | exact bys_one _ | (simp; done))) (by first | omega | with_reducible assumption | (simp only [zb, zu, zw, zi, za]; omega) | (simp only [zs, zr, zm, za, zb, zu, zw, zi, zt, zd, zc, zn, *] <;> first | done | omega) | rfl) ?_
  simp only [List.set_cons_zero, List.set_cons_succ]
  refine vl_nil ?_
  refine (th_n ?_)
  refine VC_seq ?_
  refine VC_region ?_
  refine vl_v (q_idxA (m := 1) Try.underlying35 sz23 rfl rfl (by omega) rfl) rfl ?_
  refine vl_v (q_loadsAt (vs := bys b) 1 Try.underlying23 rfl rfl rfl sz23 e2 (by rw [bys_length, lb])) rfl ?_
  refine l_allocA zr23 rfl ?_
  intro b7
  refine l_storeA 0 rfl rfl rfl sz23 (by first | omega | with_reducible assumption | (simp only [zb, zu, zw, zi, za]; omega) | (simp only [zs, zr, zm, za, zb, zu, zw, zi, zt, zd, zc, zn, *] <;> first | done | omega) | rfl) (by first | (with_reducible first | exact bys_one _ | exact u32s_one _ | exact u64s_one _ | exact i64s_one _ | exact n64s_one _ | assumption) | exact bys_one _ | exact u32s_one _ | exact u64s_one _ | exact i64s_one _ | exact one_all rfl | (refine app_one ?_ ?_ <;> first | exact bys_one _ | (simp; done))) (by first | omega | with_reducible assumption | (simp only [zb, zu, zw, zi, za]; omega) | (simp only [zs, zr, zm, za, zb, zu, zw, zi, zt, zd, zc, zn, *] <;> first | done | omega) | rfl) ?_
  simp only [List.set_cons_zero, List.set_cons_succ]
  refine vl_nil ?_
  refine (th_n ?_)
  refine VC_seq ?_
  refine VC_region ?_
  refine vl_v (q_idxA (m := 2) Try.underlying35 sz23 rfl rfl (by omega) rfl) rfl ?_
  refine vl_v (q_loadsAt (vs := bys k) 2 Try.underlying23 rfl rfl rfl sz23 e3 (by rw [bys_length, lk])) rfl ?_
  refine l_allocA zr23 rfl ?_
  intro b8
  refine l_storeA 0 rfl rfl rfl sz23 (by first | omega | with_reducible assumption | (simp only [zb, zu, zw, zi, za]; omega) | (simp only [zs, zr, zm, za, zb, zu, zw, zi, zt, zd, zc, zn, *] <;> first | done | omega) | rfl) (by first | (with_reducible first | exact bys_one _ | exact u32s_one _ | exact u64s_one _ | exact i64s_one _ | exact n64s_one _ | assumption) | exact bys_one _ | exact u32s_one _ | exact u64s_one _ | exact i64s_one _ | exact one_all rfl | (refine app_one ?_ ?_ <;> first | exact bys_one _ | (simp; done))) (by first | omega | with_reducible assumption | (simp only [zb, zu, zw, zi, za]; omega) | (simp only [zs, zr, zm, za, zb, zu, zw, zi, zt, zd, zc, zn, *] <;> first | done | omega) | rfl) ?_
  simp only [List.set_cons_zero, List.set_cons_succ]
  refine vl_nil ?_
  refine (th_n ?_)
  refine VC_seq ?_
  refine VC_region ?_
  refine l_call (F := fun v L' => ∃ bS' mm oo AA cc, v = vP bS' 0 ∧ MapOf oo (mapE []) ∧ L' = SkR bS' mm oo AA cc [] ++ [.blk b8 23 (bys (k)), .blk b7 23 (bys (b)), .blk b6 23 (bys (a)), .blk b2 35 x]) Try.func9 rfl rfl rfl (fun w1 H1 => (new_calls w1).mono fun e w' h => ?_) rfl ?_
  · obtain ⟨bS', mm, h1, oo, AA, cc, hE, h2⟩ := h
    rw [List.append_nil] at h2
    exact ⟨_, _, h1, ⟨bS', mm, oo, AA, cc, rfl, hE, rfl⟩, (H1.join h2).perm List.perm_append_comm⟩
  rintro v L' ⟨bS, m1, o0, A0, c0, rfl, hE0, rfl⟩
  simp only [SkR, List.cons_append, List.nil_append, List.append_nil]
  refine vl_v (q_assign rfl) rfl ?_
  refine vl_nil ?_
  refine (th_n ?_)
  refine VC_seq ?_
  refine VC_seq ?_
  refine VC_region ?_
  refine vl_v (q_move rfl) rfl ?_
  refine vl_v (q_eqPN Try.underlying26 rfl rfl) rfl ?_
  refine vl_v (q_move rfl) rfl ?_
  refine vl_vg rfl (q_move rfl) rfl ?_
  refine vl_vg rfl (q_as (v := .bool false) (q_lss_k (q := 0) Try.underlying3 rfl rfl) (by simp; omega)) rfl ?_
  first | (refine vl_v (q_pickT rfl rfl) rfl ?_) | (refine vl_v (q_pickF rfl rfl) rfl ?_)
  refine vl_nil ?_
  refine (th_n ?_)
  refine VC_no (rfl) ?_
  refine VC_skip ?_
  refine (th_n ?_)
  refine VC_seq ?_
  refine VC_region ?_
  refine vl_v (q_move rfl) rfl ?_
  first | (refine vl_v (q_loads 5 Try.underlying23 rfl rfl rfl sz23 (by first | omega | with_reducible assumption | (simp only [zb, zu, zw, zi, za]; omega) | (simp only [zs, zr, zm, za, zb, zu, zw, zi, zt, zd, zc, zn, *] <;> first | done | omega) | rfl)) rfl ?_) | (refine vl_v (q_loadsAt 5 Try.underlying23 rfl rfl rfl sz23 (by rfl) (by first | omega | with_reducible assumption | (simp only [zb, zu, zw, zi, za]; omega) | (simp only [zs, zr, zm, za, zb, zu, zw, zi, zt, zd, zc, zn, *] <;> first | done | omega) | rfl)) rfl ?_)
  refine vl_v (q_move rfl) rfl ?_
  first | (refine vl_v (q_loads 3 Try.underlying23 rfl rfl rfl sz23 (by first | omega | with_reducible assumption | (simp only [zb, zu, zw, zi, za]; omega) | (simp only [zs, zr, zm, za, zb, zu, zw, zi, zt, zd, zc, zn, *] <;> first | done | omega) | rfl)) rfl ?_) | (refine vl_v (q_loadsAt 3 Try.underlying23 rfl rfl rfl sz23 (by rfl) (by first | omega | with_reducible assumption | (simp only [zb, zu, zw, zi, za]; omega) | (simp only [zs, zr, zm, za, zb, zu, zw, zi, zt, zd, zc, zn, *] <;> first | done | omega) | rfl)) rfl ?_)
  refine l_call (F := fun v L' => v = .int .i64 (0) ∧ ∃ o A c, MapOf o (mapE ([⟨a, n, k⟩])) ∧ L' = SkR bS m1 o A c ([⟨a, n, k⟩]) ++ [.blk b8 23 (bys (k)), .blk b7 23 (bys (b)), .blk b6 23 (bys (a)), .blk b2 35 x]) Try.func10 rfl rfl rfl (fun w1 H1 => (put_to (r := 0) (L' := [⟨a, n, k⟩]) (⟨a, n, k⟩) la lk hw good_nil (by simp) (put_one k h0) (show St _ _ (SkR bS m1 o0 A0 c0 ([]) ++ [.blk b8 23 (bys (k)), .blk b7 23 (bys (b)), .blk b6 23 (bys (a)), .blk b2 35 x]) w1 from H1) hE0).mono fun r w' h => ?_) rfl ?_
  · obtain ⟨h1, o, A, c, hE, h2⟩ := h
    exact ⟨_, _, h1, ⟨rfl, o, A, c, hE, rfl⟩, h2⟩
  rintro v L' ⟨rfl, o1, A1, c1, hE1, rfl⟩
  simp only [SkR, List.cons_append, List.nil_append, List.append_nil]
  refine vl_v (q_assign rfl) rfl ?_
  refine vl_nil ?_
  refine (th_n ?_)
  refine VC_seq ?_
  refine VC_region ?_
  refine vl_v (q_move rfl) rfl ?_
  first | (refine vl_v (q_loads 4 Try.underlying23 rfl rfl rfl sz23 (by first | omega | with_reducible assumption | (simp only [zb, zu, zw, zi, za]; omega) | (simp only [zs, zr, zm, za, zb, zu, zw, zi, zt, zd, zc, zn, *] <;> first | done | omega) | rfl)) rfl ?_) | (refine vl_v (q_loadsAt 4 Try.underlying23 rfl rfl rfl sz23 (by rfl) (by first | omega | with_reducible assumption | (simp only [zb, zu, zw, zi, za]; omega) | (simp only [zs, zr, zm, za, zb, zu, zw, zi, zt, zd, zc, zn, *] <;> first | done | omega) | rfl)) rfl ?_)
  refine vl_v (q_move rfl) rfl ?_
  refine l_call (F := fun v L' => v = .tuple #[.agg (bys (k)).toArray, .bool (true)] ∧ ∃ o A c, MapOf o (mapE ([])) ∧ L' = SkR bS m1 o A c ([]) ++ [.blk b8 23 (bys (k)), .blk b7 23 (bys (b)), .blk b6 23 (bys (a)), .blk b2 35 x]) Try.func12 rfl rfl rfl (fun w1 H1 => (take_to (ak := k) (f := true) (L' := []) (b) (n) lb hw (good_one la lk hw) (by simp) (by rw [← hab]; exact ask_one a n k) (by rw [← hab]; exact take_one a n k) (show St _ _ (SkR bS m1 o1 A1 c1 ([⟨a, n, k⟩]) ++ [.blk b8 23 (bys (k)), .blk b7 23 (bys (b)), .blk b6 23 (bys (a)), .blk b2 35 x]) w1 from H1) hE1).mono fun r w' h => ?_) rfl ?_
  · obtain ⟨h1, o, A, c, hE, h2⟩ := h
    exact ⟨_, _, h1, ⟨rfl, o, A, c, hE, rfl⟩, h2⟩
  rintro v L' ⟨rfl, o2, A2, c2, hE2, rfl⟩
  simp only [SkR, List.cons_append, List.nil_append, List.append_nil]
  refine vl_v (q_move rfl) rfl ?_
  refine vl_v (q_ext rfl rfl) rfl ?_
  refine vl_v (q_ext rfl rfl) rfl ?_
  refine l_allocA zr23 rfl ?_
  intro b11
  refine l_storeA 0 rfl rfl rfl sz23 (by first | omega | with_reducible assumption | (simp only [zb, zu, zw, zi, za]; omega) | (simp only [zs, zr, zm, za, zb, zu, zw, zi, zt, zd, zc, zn, *] <;> first | done | omega) | rfl) (by first | (with_reducible first | exact bys_one _ | exact u32s_one _ | exact u64s_one _ | exact i64s_one _ | exact n64s_one _ | assumption) | exact bys_one _ | exact u32s_one _ | exact u64s_one _ | exact i64s_one _ | exact one_all rfl | (refine app_one ?_ ?_ <;> first | exact bys_one _ | (simp; done))) (by first | omega | with_reducible assumption | (simp only [zb, zu, zw, zi, za]; omega) | (simp only [zs, zr, zm, za, zb, zu, zw, zi, zt, zd, zc, zn, *] <;> first | done | omega) | rfl) ?_
  simp only [List.set_cons_zero, List.set_cons_succ]
  refine vl_v (q_assign rfl) rfl ?_
  refine vl_nil ?_
  refine (th_n ?_)
  refine VC_seq ?_
  refine VC_pickL (ks := [1, 2, 3, 0, 4, 5, 6, 7]) (by decide) rfl ?_
  refine VC_region ?_
  refine vl_v (q_move rfl) rfl ?_
  first | (refine vl_v (q_loads 6 Try.underlying23 rfl rfl rfl sz23 (by first | omega | with_reducible assumption | (simp only [zb, zu, zw, zi, za]; omega) | (simp only [zs, zr, zm, za, zb, zu, zw, zi, zt, zd, zc, zn, *] <;> first | done | omega) | rfl)) rfl ?_) | (refine vl_v (q_loadsAt 6 Try.underlying23 rfl rfl rfl sz23 (by rfl) (by first | omega | with_reducible assumption | (simp only [zb, zu, zw, zi, za]; omega) | (simp only [zs, zr, zm, za, zb, zu, zw, zi, zt, zd, zc, zn, *] <;> first | done | omega) | rfl)) rfl ?_)
  refine vl_v (q_move rfl) rfl ?_
  refine l_call (F := fun v L' => v = .tuple #[.agg (bys (zKey)).toArray, .bool (false)] ∧ ∃ o A c, MapOf o (mapE ([])) ∧ L' = SkR bS m1 o A c ([]) ++ [.blk b11 23 (bys (k)), .blk b8 23 (bys (k)), .blk b7 23 (bys (b)), .blk b6 23 (bys (a)), .blk b2 35 x]) Try.func12 rfl rfl rfl (fun w1 H1 => (take_to (ak := zKey) (f := false) (L' := []) (a) (n) la hw good_nil (by simp) (by rfl) (by rfl) (show St _ _ (SkR bS m1 o2 A2 c2 ([]) ++ [.blk b11 23 (bys (k)), .blk b8 23 (bys (k)), .blk b7 23 (bys (b)), .blk b6 23 (bys (a)), .blk b2 35 x]) w1 from H1) hE2).mono fun r w' h => ?_) rfl ?_
  · obtain ⟨h1, o, A, c, hE, h2⟩ := h
    exact ⟨_, _, h1, ⟨rfl, o, A, c, hE, rfl⟩, h2⟩
  rintro v L' ⟨rfl, o3, A3, c3, hE3, rfl⟩
  simp only [SkR, List.cons_append, List.nil_append, List.append_nil]
  refine vl_v (q_move rfl) rfl ?_
  refine vl_v (q_ext rfl rfl) rfl ?_
  refine vl_v (q_ext rfl rfl) rfl ?_
  refine l_allocA zr23 rfl ?_
  intro b13
  refine l_storeA 0 rfl rfl rfl sz23 (by first | omega | with_reducible assumption | (simp only [zb, zu, zw, zi, za]; omega) | (simp only [zs, zr, zm, za, zb, zu, zw, zi, zt, zd, zc, zn, *] <;> first | done | omega) | rfl) (by first | (with_reducible first | exact bys_one _ | exact u32s_one _ | exact u64s_one _ | exact i64s_one _ | exact n64s_one _ | assumption) | exact bys_one _ | exact u32s_one _ | exact u64s_one _ | exact i64s_one _ | exact one_all rfl | (refine app_one ?_ ?_ <;> first | exact bys_one _ | (simp; done))) (by first | omega | with_reducible assumption | (simp only [zb, zu, zw, zi, za]; omega) | (simp only [zs, zr, zm, za, zb, zu, zw, zi, zt, zd, zc, zn, *] <;> first | done | omega) | rfl) ?_
  simp only [List.set_cons_zero, List.set_cons_succ]
  refine vl_v (q_assign rfl) rfl ?_
  refine vl_nil ?_
  refine (th_n ?_)
  refine VC_seq ?_
  refine VC_seq ?_
  refine VC_region ?_
  first | (refine vl_v (q_loads 7 Try.underlying23 rfl rfl rfl sz23 (by first | omega | with_reducible assumption | (simp only [zb, zu, zw, zi, za]; omega) | (simp only [zs, zr, zm, za, zb, zu, zw, zi, zt, zd, zc, zn, *] <;> first | done | omega) | rfl)) rfl ?_) | (refine vl_v (q_loadsAt 7 Try.underlying23 rfl rfl rfl sz23 (by rfl) (by first | omega | with_reducible assumption | (simp only [zb, zu, zw, zi, za]; omega) | (simp only [zs, zr, zm, za, zb, zu, zw, zi, zt, zd, zc, zn, *] <;> first | done | omega) | rfl)) rfl ?_)
  first | (refine vl_v (q_loads 6 Try.underlying23 rfl rfl rfl sz23 (by first | omega | with_reducible assumption | (simp only [zb, zu, zw, zi, za]; omega) | (simp only [zs, zr, zm, za, zb, zu, zw, zi, zt, zd, zc, zn, *] <;> first | done | omega) | rfl)) rfl ?_) | (refine vl_v (q_loadsAt 6 Try.underlying23 rfl rfl rfl sz23 (by rfl) (by first | omega | with_reducible assumption | (simp only [zb, zu, zw, zi, za]; omega) | (simp only [zs, zr, zm, za, zb, zu, zw, zi, zt, zd, zc, zn, *] <;> first | done | omega) | rfl)) rfl ?_)
  refine vl_v (q_as (v := .bool true) (q_eqB flatKey rfl rfl (fits_bys' la) (fits_bys' lb)) (by rw [decide_eq_true hab])) rfl ?_
  refine vl_nil ?_
  refine (th_n ?_)
  refine VC_yes (rfl) ?_
  refine VC_seq ?_
  refine VC_region ?_
  refine vl_v (q_move rfl) rfl ?_
  refine vl_v (q_move rfl) rfl ?_
  refine vl_vg rfl (q_move rfl) rfl ?_
  refine vl_vg rfl (q_true (q_eql_n (q := 0) Try.underlying28 rfl rfl) (decide_eq_true rfl)) rfl ?_
  first | (refine vl_v (q_pickT rfl rfl) rfl ?_) | (refine vl_v (q_pickF rfl rfl) rfl ?_)
  refine vl_v (q_move rfl) rfl ?_
  refine vl_vg rfl (q_move rfl) rfl ?_
  first | (refine vl_v (q_pickT rfl rfl) rfl ?_) | (refine vl_v (q_pickF rfl rfl) rfl ?_)
  refine vl_v (q_move rfl) rfl ?_
  first | (refine vl_vg rfl (q_loads 4 Try.underlying23 rfl rfl rfl sz23 (by first | omega | with_reducible assumption | (simp only [zb, zu, zw, zi, za]; omega) | (simp only [zs, zr, zm, za, zb, zu, zw, zi, zt, zd, zc, zn, *] <;> first | done | omega) | rfl)) rfl ?_) | (refine vl_vg rfl (q_loadsAt 4 Try.underlying23 rfl rfl rfl sz23 (by rfl) (by first | omega | with_reducible assumption | (simp only [zb, zu, zw, zi, za]; omega) | (simp only [zs, zr, zm, za, zb, zu, zw, zi, zt, zd, zc, zn, *] <;> first | done | omega) | rfl)) rfl ?_)
  first | (refine vl_vg rfl (q_loads 5 Try.underlying23 rfl rfl rfl sz23 (by first | omega | with_reducible assumption | (simp only [zb, zu, zw, zi, za]; omega) | (simp only [zs, zr, zm, za, zb, zu, zw, zi, zt, zd, zc, zn, *] <;> first | done | omega) | rfl)) rfl ?_) | (refine vl_vg rfl (q_loadsAt 5 Try.underlying23 rfl rfl rfl sz23 (by rfl) (by first | omega | with_reducible assumption | (simp only [zb, zu, zw, zi, za]; omega) | (simp only [zs, zr, zm, za, zb, zu, zw, zi, zt, zd, zc, zn, *] <;> first | done | omega) | rfl)) rfl ?_)
  refine vl_vg rfl (q_eqT flatKey rfl rfl (fits_bys' lk) rfl) rfl ?_
  first | (refine vl_v (q_pickT rfl rfl) rfl ?_) | (refine vl_v (q_pickF rfl rfl) rfl ?_)
  refine vl_v (q_move rfl) rfl ?_
  refine vl_vg rfl (q_move rfl) rfl ?_
  refine vl_vg rfl (q_not rfl) rfl ?_
  first | (refine vl_v (q_pickT rfl rfl) rfl ?_) | (refine vl_v (q_pickF rfl rfl) rfl ?_)
  refine vl_v (q_move rfl) rfl ?_
  first | (refine vl_vg rfl (q_loads 0 Try.underlying23 rfl rfl rfl sz23 (by first | omega | with_reducible assumption | (simp only [zb, zu, zw, zi, za]; omega) | (simp only [zs, zr, zm, za, zb, zu, zw, zi, zt, zd, zc, zn, *] <;> first | done | omega) | rfl)) rfl ?_) | (refine vl_vg rfl (q_loadsAt 0 Try.underlying23 rfl rfl rfl sz23 (by rfl) (by first | omega | with_reducible assumption | (simp only [zb, zu, zw, zi, za]; omega) | (simp only [zs, zr, zm, za, zb, zu, zw, zi, zt, zd, zc, zn, *] <;> first | done | omega) | rfl)) rfl ?_)
  refine vl_vg rfl (q_build (c' := bys zKey) rfl (by kernel_rfl)) rfl ?_
  refine vl_vg rfl (q_eqT flatKey rfl rfl (fits_bys' lz) rfl) rfl ?_
  first | (refine vl_v (q_pickT rfl rfl) rfl ?_) | (refine vl_v (q_pickF rfl rfl) rfl ?_)
  refine vl_v (q_assign rfl) rfl ?_
  refine vl_nil ?_
  refine (th_n ?_)
  refine VC_ret ?_
  refine (th_r ?_)
  refine ⟨_, res1 rfl rfl, ?_⟩
  exact rfl
set_option maxHeartbeats 2000000 in
theorem whose_diff (a b k : List UInt8) (n : Int) (la : a.length = 32) (lb : b.length = 32) (lk : k.length = 32) (hw : (Lit.int .i64 n).wf = true) (h0 : 0 ≤ n) (hab : ¬ a = b) (w : World) :
    Calls Try.prog 5 #[.agg (bys (a ++ b ++ k)).toArray, vI n] w fun e w' => e = .returned (.bool true) ∧ Kept [] w w' := by
  have lz := zKey_length
  have e1 : ((bys (a ++ b ++ k)).drop 0).take 32 = bys a := by rw [List.drop_zero, bys_take, List.append_assoc, List.take_left' la]
  have e2 : ((bys (a ++ b ++ k)).drop 32).take 32 = bys b := by rw [bys_drop, bys_take, List.append_assoc, List.drop_left' la, List.take_left' lb]
  have e3 : ((bys (a ++ b ++ k)).drop 64).take 32 = bys k := by rw [bys_drop, bys_take, List.drop_left' (by rw [List.length_append]; omega), List.take_of_length_le (by omega)]
  obtain ⟨x, hxx⟩ : ∃ x, bys (a ++ b ++ k) = x := ⟨_, rfl⟩
  have lx : x.length = 96 := by rw [← hxx, bys_length, List.length_append, List.length_append]; omega
  rw [hxx] at e1 e2 e3 ⊢
  refine enter (n := 100) (R := fun e L => e = .returned (.bool true)) [.agg x.toArray, vI n] Try.func5 rfl rfl rfl (St.refl w) ?_ (fun e w' L' h H => ⟨h, H.kept⟩)
  refine VC_seq ?_
  refine VC_region ?_
  refine l_boxA rfl rfl ?_
  intro b2
  refine vl_v (q_assign rfl) rfl ?_
  refine vl_nil ?_
  refine (th_n ?_)
  refine VC_seq ?_
  refine VC_region ?_
  refine vl_v (q_callV Try.func8 rfl rfl rfl (fun w1 H1 => awake11_calls w1)) rfl ?_
  refine vl_v (q_assign rfl) rfl ?_
  refine vl_nil ?_
  refine (th_n ?_)
  refine VC_seq ?_
  refine VC_region ?_
  refine vl_v (q_idxA (m := 0) Try.underlying35 sz23 rfl rfl (by omega) rfl) rfl ?_
  refine vl_v (q_loadsAt (vs := bys a) 0 Try.underlying23 rfl rfl rfl sz23 e1 (by rw [bys_length, la])) rfl ?_
  refine l_allocA zr23 rfl ?_
  intro b6
  refine l_storeA 0 rfl rfl rfl sz23 (by first | omega | with_reducible assumption | (simp only [zb, zu, zw, zi, za]; omega) | (simp only [zs, zr, zm, za, zb, zu, zw, zi, zt, zd, zc, zn, *] <;> first | done | omega) | rfl) (by first | (with_reducible first | exact bys_one _ | exact u32s_one _ | exact u64s_one _ | exact i64s_one _ | exact n64s_one _ | assumption) | exact bys_one _ | exact u32s_one _ | exact u64s_one _ | exact i64s_one _ | exact one_all rfl | (refine app_one ?_ ?_ <;> first | exact bys_one _ | (simp; done))) (by first | omega | with_reducible assumption | (simp only [zb, zu, zw, zi, za]; omega) | (simp only [zs, zr, zm, za, zb, zu, zw, zi, zt, zd, zc, zn, *] <;> first | done | omega) | rfl) ?_
  simp only [List.set_cons_zero, List.set_cons_succ]
  refine vl_nil ?_
  refine (th_n ?_)
  refine VC_seq ?_
  refine VC_region ?_
  refine vl_v (q_idxA (m := 1) Try.underlying35 sz23 rfl rfl (by omega) rfl) rfl ?_
  refine vl_v (q_loadsAt (vs := bys b) 1 Try.underlying23 rfl rfl rfl sz23 e2 (by rw [bys_length, lb])) rfl ?_
  refine l_allocA zr23 rfl ?_
  intro b7
  refine l_storeA 0 rfl rfl rfl sz23 (by first | omega | with_reducible assumption | (simp only [zb, zu, zw, zi, za]; omega) | (simp only [zs, zr, zm, za, zb, zu, zw, zi, zt, zd, zc, zn, *] <;> first | done | omega) | rfl) (by first | (with_reducible first | exact bys_one _ | exact u32s_one _ | exact u64s_one _ | exact i64s_one _ | exact n64s_one _ | assumption) | exact bys_one _ | exact u32s_one _ | exact u64s_one _ | exact i64s_one _ | exact one_all rfl | (refine app_one ?_ ?_ <;> first | exact bys_one _ | (simp; done))) (by first | omega | with_reducible assumption | (simp only [zb, zu, zw, zi, za]; omega) | (simp only [zs, zr, zm, za, zb, zu, zw, zi, zt, zd, zc, zn, *] <;> first | done | omega) | rfl) ?_
  simp only [List.set_cons_zero, List.set_cons_succ]
  refine vl_nil ?_
  refine (th_n ?_)
  refine VC_seq ?_
  refine VC_region ?_
  refine vl_v (q_idxA (m := 2) Try.underlying35 sz23 rfl rfl (by omega) rfl) rfl ?_
  refine vl_v (q_loadsAt (vs := bys k) 2 Try.underlying23 rfl rfl rfl sz23 e3 (by rw [bys_length, lk])) rfl ?_
  refine l_allocA zr23 rfl ?_
  intro b8
  refine l_storeA 0 rfl rfl rfl sz23 (by first | omega | with_reducible assumption | (simp only [zb, zu, zw, zi, za]; omega) | (simp only [zs, zr, zm, za, zb, zu, zw, zi, zt, zd, zc, zn, *] <;> first | done | omega) | rfl) (by first | (with_reducible first | exact bys_one _ | exact u32s_one _ | exact u64s_one _ | exact i64s_one _ | exact n64s_one _ | assumption) | exact bys_one _ | exact u32s_one _ | exact u64s_one _ | exact i64s_one _ | exact one_all rfl | (refine app_one ?_ ?_ <;> first | exact bys_one _ | (simp; done))) (by first | omega | with_reducible assumption | (simp only [zb, zu, zw, zi, za]; omega) | (simp only [zs, zr, zm, za, zb, zu, zw, zi, zt, zd, zc, zn, *] <;> first | done | omega) | rfl) ?_
  simp only [List.set_cons_zero, List.set_cons_succ]
  refine vl_nil ?_
  refine (th_n ?_)
  refine VC_seq ?_
  refine VC_region ?_
  refine l_call (F := fun v L' => ∃ bS' mm oo AA cc, v = vP bS' 0 ∧ MapOf oo (mapE []) ∧ L' = SkR bS' mm oo AA cc [] ++ [.blk b8 23 (bys (k)), .blk b7 23 (bys (b)), .blk b6 23 (bys (a)), .blk b2 35 x]) Try.func9 rfl rfl rfl (fun w1 H1 => (new_calls w1).mono fun e w' h => ?_) rfl ?_
  · obtain ⟨bS', mm, h1, oo, AA, cc, hE, h2⟩ := h
    rw [List.append_nil] at h2
    exact ⟨_, _, h1, ⟨bS', mm, oo, AA, cc, rfl, hE, rfl⟩, (H1.join h2).perm List.perm_append_comm⟩
  rintro v L' ⟨bS, m1, o0, A0, c0, rfl, hE0, rfl⟩
  simp only [SkR, List.cons_append, List.nil_append, List.append_nil]
  refine vl_v (q_assign rfl) rfl ?_
  refine vl_nil ?_
  refine (th_n ?_)
  refine VC_seq ?_
  refine VC_seq ?_
  refine VC_region ?_
  refine vl_v (q_move rfl) rfl ?_
  refine vl_v (q_eqPN Try.underlying26 rfl rfl) rfl ?_
  refine vl_v (q_move rfl) rfl ?_
  refine vl_vg rfl (q_move rfl) rfl ?_
  refine vl_vg rfl (q_as (v := .bool false) (q_lss_k (q := 0) Try.underlying3 rfl rfl) (by simp; omega)) rfl ?_
  first | (refine vl_v (q_pickT rfl rfl) rfl ?_) | (refine vl_v (q_pickF rfl rfl) rfl ?_)
  refine vl_nil ?_
  refine (th_n ?_)
  refine VC_no (rfl) ?_
  refine VC_skip ?_
  refine (th_n ?_)
  refine VC_seq ?_
  refine VC_region ?_
  refine vl_v (q_move rfl) rfl ?_
  first | (refine vl_v (q_loads 5 Try.underlying23 rfl rfl rfl sz23 (by first | omega | with_reducible assumption | (simp only [zb, zu, zw, zi, za]; omega) | (simp only [zs, zr, zm, za, zb, zu, zw, zi, zt, zd, zc, zn, *] <;> first | done | omega) | rfl)) rfl ?_) | (refine vl_v (q_loadsAt 5 Try.underlying23 rfl rfl rfl sz23 (by rfl) (by first | omega | with_reducible assumption | (simp only [zb, zu, zw, zi, za]; omega) | (simp only [zs, zr, zm, za, zb, zu, zw, zi, zt, zd, zc, zn, *] <;> first | done | omega) | rfl)) rfl ?_)
  refine vl_v (q_move rfl) rfl ?_
  first | (refine vl_v (q_loads 3 Try.underlying23 rfl rfl rfl sz23 (by first | omega | with_reducible assumption | (simp only [zb, zu, zw, zi, za]; omega) | (simp only [zs, zr, zm, za, zb, zu, zw, zi, zt, zd, zc, zn, *] <;> first | done | omega) | rfl)) rfl ?_) | (refine vl_v (q_loadsAt 3 Try.underlying23 rfl rfl rfl sz23 (by rfl) (by first | omega | with_reducible assumption | (simp only [zb, zu, zw, zi, za]; omega) | (simp only [zs, zr, zm, za, zb, zu, zw, zi, zt, zd, zc, zn, *] <;> first | done | omega) | rfl)) rfl ?_)
  refine l_call (F := fun v L' => v = .int .i64 (0) ∧ ∃ o A c, MapOf o (mapE ([⟨a, n, k⟩])) ∧ L' = SkR bS m1 o A c ([⟨a, n, k⟩]) ++ [.blk b8 23 (bys (k)), .blk b7 23 (bys (b)), .blk b6 23 (bys (a)), .blk b2 35 x]) Try.func10 rfl rfl rfl (fun w1 H1 => (put_to (r := 0) (L' := [⟨a, n, k⟩]) (⟨a, n, k⟩) la lk hw good_nil (by simp) (put_one k h0) (show St _ _ (SkR bS m1 o0 A0 c0 ([]) ++ [.blk b8 23 (bys (k)), .blk b7 23 (bys (b)), .blk b6 23 (bys (a)), .blk b2 35 x]) w1 from H1) hE0).mono fun r w' h => ?_) rfl ?_
  · obtain ⟨h1, o, A, c, hE, h2⟩ := h
    exact ⟨_, _, h1, ⟨rfl, o, A, c, hE, rfl⟩, h2⟩
  rintro v L' ⟨rfl, o1, A1, c1, hE1, rfl⟩
  simp only [SkR, List.cons_append, List.nil_append, List.append_nil]
  refine vl_v (q_assign rfl) rfl ?_
  refine vl_nil ?_
  refine (th_n ?_)
  refine VC_seq ?_
  refine VC_region ?_
  refine vl_v (q_move rfl) rfl ?_
  first | (refine vl_v (q_loads 4 Try.underlying23 rfl rfl rfl sz23 (by first | omega | with_reducible assumption | (simp only [zb, zu, zw, zi, za]; omega) | (simp only [zs, zr, zm, za, zb, zu, zw, zi, zt, zd, zc, zn, *] <;> first | done | omega) | rfl)) rfl ?_) | (refine vl_v (q_loadsAt 4 Try.underlying23 rfl rfl rfl sz23 (by rfl) (by first | omega | with_reducible assumption | (simp only [zb, zu, zw, zi, za]; omega) | (simp only [zs, zr, zm, za, zb, zu, zw, zi, zt, zd, zc, zn, *] <;> first | done | omega) | rfl)) rfl ?_)
  refine vl_v (q_move rfl) rfl ?_
  refine l_call (F := fun v L' => v = .tuple #[.agg (bys (zKey)).toArray, .bool (false)] ∧ ∃ o A c, MapOf o (mapE ([⟨a, n, k⟩])) ∧ L' = SkR bS m1 o A c ([⟨a, n, k⟩]) ++ [.blk b8 23 (bys (k)), .blk b7 23 (bys (b)), .blk b6 23 (bys (a)), .blk b2 35 x]) Try.func12 rfl rfl rfl (fun w1 H1 => (take_to (ak := zKey) (f := false) (L' := [⟨a, n, k⟩]) (b) (n) lb hw (good_one la lk hw) (by simp) (ask_other n k hab) (take_other n k hab) (show St _ _ (SkR bS m1 o1 A1 c1 ([⟨a, n, k⟩]) ++ [.blk b8 23 (bys (k)), .blk b7 23 (bys (b)), .blk b6 23 (bys (a)), .blk b2 35 x]) w1 from H1) hE1).mono fun r w' h => ?_) rfl ?_
  · obtain ⟨h1, o, A, c, hE, h2⟩ := h
    exact ⟨_, _, h1, ⟨rfl, o, A, c, hE, rfl⟩, h2⟩
  rintro v L' ⟨rfl, o2, A2, c2, hE2, rfl⟩
  simp only [SkR, List.cons_append, List.nil_append, List.append_nil]
  refine vl_v (q_move rfl) rfl ?_
  refine vl_v (q_ext rfl rfl) rfl ?_
  refine vl_v (q_ext rfl rfl) rfl ?_
  refine l_allocA zr23 rfl ?_
  intro b11
  refine l_storeA 0 rfl rfl rfl sz23 (by first | omega | with_reducible assumption | (simp only [zb, zu, zw, zi, za]; omega) | (simp only [zs, zr, zm, za, zb, zu, zw, zi, zt, zd, zc, zn, *] <;> first | done | omega) | rfl) (by first | (with_reducible first | exact bys_one _ | exact u32s_one _ | exact u64s_one _ | exact i64s_one _ | exact n64s_one _ | assumption) | exact bys_one _ | exact u32s_one _ | exact u64s_one _ | exact i64s_one _ | exact one_all rfl | (refine app_one ?_ ?_ <;> first | exact bys_one _ | (simp; done))) (by first | omega | with_reducible assumption | (simp only [zb, zu, zw, zi, za]; omega) | (simp only [zs, zr, zm, za, zb, zu, zw, zi, zt, zd, zc, zn, *] <;> first | done | omega) | rfl) ?_
  simp only [List.set_cons_zero, List.set_cons_succ]
  refine vl_v (q_assign rfl) rfl ?_
  refine vl_nil ?_
  refine (th_n ?_)
  refine VC_seq ?_
  refine VC_pickL (ks := [1, 2, 3, 0, 4, 5, 6, 7]) (by decide) rfl ?_
  refine VC_region ?_
  refine vl_v (q_move rfl) rfl ?_
  first | (refine vl_v (q_loads 6 Try.underlying23 rfl rfl rfl sz23 (by first | omega | with_reducible assumption | (simp only [zb, zu, zw, zi, za]; omega) | (simp only [zs, zr, zm, za, zb, zu, zw, zi, zt, zd, zc, zn, *] <;> first | done | omega) | rfl)) rfl ?_) | (refine vl_v (q_loadsAt 6 Try.underlying23 rfl rfl rfl sz23 (by rfl) (by first | omega | with_reducible assumption | (simp only [zb, zu, zw, zi, za]; omega) | (simp only [zs, zr, zm, za, zb, zu, zw, zi, zt, zd, zc, zn, *] <;> first | done | omega) | rfl)) rfl ?_)
  refine vl_v (q_move rfl) rfl ?_
  refine l_call (F := fun v L' => v = .tuple #[.agg (bys (k)).toArray, .bool (true)] ∧ ∃ o A c, MapOf o (mapE ([])) ∧ L' = SkR bS m1 o A c ([]) ++ [.blk b11 23 (bys (zKey)), .blk b8 23 (bys (k)), .blk b7 23 (bys (b)), .blk b6 23 (bys (a)), .blk b2 35 x]) Try.func12 rfl rfl rfl (fun w1 H1 => (take_to (ak := k) (f := true) (L' := []) (a) (n) la hw (good_one la lk hw) (by simp) (ask_one a n k) (take_one a n k) (show St _ _ (SkR bS m1 o2 A2 c2 ([⟨a, n, k⟩]) ++ [.blk b11 23 (bys (zKey)), .blk b8 23 (bys (k)), .blk b7 23 (bys (b)), .blk b6 23 (bys (a)), .blk b2 35 x]) w1 from H1) hE2).mono fun r w' h => ?_) rfl ?_
  · obtain ⟨h1, o, A, c, hE, h2⟩ := h
    exact ⟨_, _, h1, ⟨rfl, o, A, c, hE, rfl⟩, h2⟩
  rintro v L' ⟨rfl, o3, A3, c3, hE3, rfl⟩
  simp only [SkR, List.cons_append, List.nil_append, List.append_nil]
  refine vl_v (q_move rfl) rfl ?_
  refine vl_v (q_ext rfl rfl) rfl ?_
  refine vl_v (q_ext rfl rfl) rfl ?_
  refine l_allocA zr23 rfl ?_
  intro b13
  refine l_storeA 0 rfl rfl rfl sz23 (by first | omega | with_reducible assumption | (simp only [zb, zu, zw, zi, za]; omega) | (simp only [zs, zr, zm, za, zb, zu, zw, zi, zt, zd, zc, zn, *] <;> first | done | omega) | rfl) (by first | (with_reducible first | exact bys_one _ | exact u32s_one _ | exact u64s_one _ | exact i64s_one _ | exact n64s_one _ | assumption) | exact bys_one _ | exact u32s_one _ | exact u64s_one _ | exact i64s_one _ | exact one_all rfl | (refine app_one ?_ ?_ <;> first | exact bys_one _ | (simp; done))) (by first | omega | with_reducible assumption | (simp only [zb, zu, zw, zi, za]; omega) | (simp only [zs, zr, zm, za, zb, zu, zw, zi, zt, zd, zc, zn, *] <;> first | done | omega) | rfl) ?_
  simp only [List.set_cons_zero, List.set_cons_succ]
  refine vl_v (q_assign rfl) rfl ?_
  refine vl_nil ?_
  refine (th_n ?_)
  refine VC_seq ?_
  refine VC_seq ?_
  refine VC_region ?_
  first | (refine vl_v (q_loads 7 Try.underlying23 rfl rfl rfl sz23 (by first | omega | with_reducible assumption | (simp only [zb, zu, zw, zi, za]; omega) | (simp only [zs, zr, zm, za, zb, zu, zw, zi, zt, zd, zc, zn, *] <;> first | done | omega) | rfl)) rfl ?_) | (refine vl_v (q_loadsAt 7 Try.underlying23 rfl rfl rfl sz23 (by rfl) (by first | omega | with_reducible assumption | (simp only [zb, zu, zw, zi, za]; omega) | (simp only [zs, zr, zm, za, zb, zu, zw, zi, zt, zd, zc, zn, *] <;> first | done | omega) | rfl)) rfl ?_)
  first | (refine vl_v (q_loads 6 Try.underlying23 rfl rfl rfl sz23 (by first | omega | with_reducible assumption | (simp only [zb, zu, zw, zi, za]; omega) | (simp only [zs, zr, zm, za, zb, zu, zw, zi, zt, zd, zc, zn, *] <;> first | done | omega) | rfl)) rfl ?_) | (refine vl_v (q_loadsAt 6 Try.underlying23 rfl rfl rfl sz23 (by rfl) (by first | omega | with_reducible assumption | (simp only [zb, zu, zw, zi, za]; omega) | (simp only [zs, zr, zm, za, zb, zu, zw, zi, zt, zd, zc, zn, *] <;> first | done | omega) | rfl)) rfl ?_)
  refine vl_v (q_as (v := .bool false) (q_eqB flatKey rfl rfl (fits_bys' la) (fits_bys' lb)) (by rw [decide_eq_false hab])) rfl ?_
  refine vl_nil ?_
  refine (th_n ?_)
  refine VC_no (rfl) ?_
  refine VC_skip ?_
  refine (th_n ?_)
  refine VC_seq ?_
  refine VC_region ?_
  refine vl_v (q_move rfl) rfl ?_
  refine vl_v (q_move rfl) rfl ?_
  refine vl_vg rfl (q_move rfl) rfl ?_
  refine vl_vg rfl (q_true (q_eql_n (q := 0) Try.underlying28 rfl rfl) (decide_eq_true rfl)) rfl ?_
  first | (refine vl_v (q_pickT rfl rfl) rfl ?_) | (refine vl_v (q_pickF rfl rfl) rfl ?_)
  refine vl_v (q_move rfl) rfl ?_
  refine vl_vg rfl (q_move rfl) rfl ?_
  refine vl_vg rfl (q_not rfl) rfl ?_
  first | (refine vl_v (q_pickT rfl rfl) rfl ?_) | (refine vl_v (q_pickF rfl rfl) rfl ?_)
  refine vl_v (q_move rfl) rfl ?_
  first | (refine vl_vg rfl (q_loads 4 Try.underlying23 rfl rfl rfl sz23 (by first | omega | with_reducible assumption | (simp only [zb, zu, zw, zi, za]; omega) | (simp only [zs, zr, zm, za, zb, zu, zw, zi, zt, zd, zc, zn, *] <;> first | done | omega) | rfl)) rfl ?_) | (refine vl_vg rfl (q_loadsAt 4 Try.underlying23 rfl rfl rfl sz23 (by rfl) (by first | omega | with_reducible assumption | (simp only [zb, zu, zw, zi, za]; omega) | (simp only [zs, zr, zm, za, zb, zu, zw, zi, zt, zd, zc, zn, *] <;> first | done | omega) | rfl)) rfl ?_)
  refine vl_vg rfl (q_build (c' := bys zKey) rfl (by kernel_rfl)) rfl ?_
  refine vl_vg rfl (q_eqT flatKey rfl rfl (fits_bys' lz) rfl) rfl ?_
  first | (refine vl_v (q_pickT rfl rfl) rfl ?_) | (refine vl_v (q_pickF rfl rfl) rfl ?_)
  refine vl_v (q_move rfl) rfl ?_
  refine vl_vg rfl (q_move rfl) rfl ?_
  first | (refine vl_v (q_pickT rfl rfl) rfl ?_) | (refine vl_v (q_pickF rfl rfl) rfl ?_)
  refine vl_v (q_move rfl) rfl ?_
  first | (refine vl_vg rfl (q_loads 0 Try.underlying23 rfl rfl rfl sz23 (by first | omega | with_reducible assumption | (simp only [zb, zu, zw, zi, za]; omega) | (simp only [zs, zr, zm, za, zb, zu, zw, zi, zt, zd, zc, zn, *] <;> first | done | omega) | rfl)) rfl ?_) | (refine vl_vg rfl (q_loadsAt 0 Try.underlying23 rfl rfl rfl sz23 (by rfl) (by first | omega | with_reducible assumption | (simp only [zb, zu, zw, zi, za]; omega) | (simp only [zs, zr, zm, za, zb, zu, zw, zi, zt, zd, zc, zn, *] <;> first | done | omega) | rfl)) rfl ?_)
  first | (refine vl_vg rfl (q_loads 5 Try.underlying23 rfl rfl rfl sz23 (by first | omega | with_reducible assumption | (simp only [zb, zu, zw, zi, za]; omega) | (simp only [zs, zr, zm, za, zb, zu, zw, zi, zt, zd, zc, zn, *] <;> first | done | omega) | rfl)) rfl ?_) | (refine vl_vg rfl (q_loadsAt 5 Try.underlying23 rfl rfl rfl sz23 (by rfl) (by first | omega | with_reducible assumption | (simp only [zb, zu, zw, zi, za]; omega) | (simp only [zs, zr, zm, za, zb, zu, zw, zi, zt, zd, zc, zn, *] <;> first | done | omega) | rfl)) rfl ?_)
  refine vl_vg rfl (q_eqT flatKey rfl rfl (fits_bys' lk) rfl) rfl ?_
  first | (refine vl_v (q_pickT rfl rfl) rfl ?_) | (refine vl_v (q_pickF rfl rfl) rfl ?_)
  refine vl_v (q_assign rfl) rfl ?_
  refine vl_nil ?_
  refine (th_n ?_)
  refine VC_ret ?_
  refine ⟨_, res1 rfl rfl, ?_⟩
  exact rfl
set_option maxHeartbeats 2000000 in
theorem whose_bad (a b k : List UInt8) (n : Int) (la : a.length = 32) (lb : b.length = 32) (lk : k.length = 32) (hw : (Lit.int .i64 n).wf = true) (h0 : ¬ 0 ≤ n) (w : World) :
    Calls Try.prog 5 #[.agg (bys (a ++ b ++ k)).toArray, vI n] w fun e w' => e = .returned (.bool true) ∧ Kept [] w w' := by
  have lz := zKey_length
  have e1 : ((bys (a ++ b ++ k)).drop 0).take 32 = bys a := by rw [List.drop_zero, bys_take, List.append_assoc, List.take_left' la]
  have e2 : ((bys (a ++ b ++ k)).drop 32).take 32 = bys b := by rw [bys_drop, bys_take, List.append_assoc, List.drop_left' la, List.take_left' lb]
  have e3 : ((bys (a ++ b ++ k)).drop 64).take 32 = bys k := by rw [bys_drop, bys_take, List.drop_left' (by rw [List.length_append]; omega), List.take_of_length_le (by omega)]
  obtain ⟨x, hxx⟩ : ∃ x, bys (a ++ b ++ k) = x := ⟨_, rfl⟩
  have lx : x.length = 96 := by rw [← hxx, bys_length, List.length_append, List.length_append]; omega
  rw [hxx] at e1 e2 e3 ⊢
  refine enter (n := 100) (R := fun e L => e = .returned (.bool true)) [.agg x.toArray, vI n] Try.func5 rfl rfl rfl (St.refl w) ?_ (fun e w' L' h H => ⟨h, H.kept⟩)
  refine VC_seq ?_
  refine VC_region ?_
  refine l_boxA rfl rfl ?_
  intro b2
  refine vl_v (q_assign rfl) rfl ?_
  refine vl_nil ?_
  refine (th_n ?_)
  refine VC_seq ?_
  refine VC_region ?_
  refine vl_v (q_callV Try.func8 rfl rfl rfl (fun w1 H1 => awake11_calls w1)) rfl ?_
  refine vl_v (q_assign rfl) rfl ?_
  refine vl_nil ?_
  refine (th_n ?_)
  refine VC_seq ?_
  refine VC_region ?_
  refine vl_v (q_idxA (m := 0) Try.underlying35 sz23 rfl rfl (by omega) rfl) rfl ?_
  refine vl_v (q_loadsAt (vs := bys a) 0 Try.underlying23 rfl rfl rfl sz23 e1 (by rw [bys_length, la])) rfl ?_
  refine l_allocA zr23 rfl ?_
  intro b6
  refine l_storeA 0 rfl rfl rfl sz23 (by first | omega | with_reducible assumption | (simp only [zb, zu, zw, zi, za]; omega) | (simp only [zs, zr, zm, za, zb, zu, zw, zi, zt, zd, zc, zn, *] <;> first | done | omega) | rfl) (by first | (with_reducible first | exact bys_one _ | exact u32s_one _ | exact u64s_one _ | exact i64s_one _ | exact n64s_one _ | assumption) | exact bys_one _ | exact u32s_one _ | exact u64s_one _ | exact i64s_one _ | exact one_all rfl | (refine app_one ?_ ?_ <;> first | exact bys_one _ | (simp; done))) (by first | omega | with_reducible assumption | (simp only [zb, zu, zw, zi, za]; omega) | (simp only [zs, zr, zm, za, zb, zu, zw, zi, zt, zd, zc, zn, *] <;> first | done | omega) | rfl) ?_
  simp only [List.set_cons_zero, List.set_cons_succ]
  refine vl_nil ?_
  refine (th_n ?_)
  refine VC_seq ?_
  refine VC_region ?_
  refine vl_v (q_idxA (m := 1) Try.underlying35 sz23 rfl rfl (by omega) rfl) rfl ?_
  refine vl_v (q_loadsAt (vs := bys b) 1 Try.underlying23 rfl rfl rfl sz23 e2 (by rw [bys_length, lb])) rfl ?_
  refine l_allocA zr23 rfl ?_
  intro b7
  refine l_storeA 0 rfl rfl rfl sz23 (by first | omega | with_reducible assumption | (simp only [zb, zu, zw, zi, za]; omega) | (simp only [zs, zr, zm, za, zb, zu, zw, zi, zt, zd, zc, zn, *] <;> first | done | omega) | rfl) (by first | (with_reducible first | exact bys_one _ | exact u32s_one _ | exact u64s_one _ | exact i64s_one _ | exact n64s_one _ | assumption) | exact bys_one _ | exact u32s_one _ | exact u64s_one _ | exact i64s_one _ | exact one_all rfl | (refine app_one ?_ ?_ <;> first | exact bys_one _ | (simp; done))) (by first | omega | with_reducible assumption | (simp only [zb, zu, zw, zi, za]; omega) | (simp only [zs, zr, zm, za, zb, zu, zw, zi, zt, zd, zc, zn, *] <;> first | done | omega) | rfl) ?_
  simp only [List.set_cons_zero, List.set_cons_succ]
  refine vl_nil ?_
  refine (th_n ?_)
  refine VC_seq ?_
  refine VC_region ?_
  refine vl_v (q_idxA (m := 2) Try.underlying35 sz23 rfl rfl (by omega) rfl) rfl ?_
  refine vl_v (q_loadsAt (vs := bys k) 2 Try.underlying23 rfl rfl rfl sz23 e3 (by rw [bys_length, lk])) rfl ?_
  refine l_allocA zr23 rfl ?_
  intro b8
  refine l_storeA 0 rfl rfl rfl sz23 (by first | omega | with_reducible assumption | (simp only [zb, zu, zw, zi, za]; omega) | (simp only [zs, zr, zm, za, zb, zu, zw, zi, zt, zd, zc, zn, *] <;> first | done | omega) | rfl) (by first | (with_reducible first | exact bys_one _ | exact u32s_one _ | exact u64s_one _ | exact i64s_one _ | exact n64s_one _ | assumption) | exact bys_one _ | exact u32s_one _ | exact u64s_one _ | exact i64s_one _ | exact one_all rfl | (refine app_one ?_ ?_ <;> first | exact bys_one _ | (simp; done))) (by first | omega | with_reducible assumption | (simp only [zb, zu, zw, zi, za]; omega) | (simp only [zs, zr, zm, za, zb, zu, zw, zi, zt, zd, zc, zn, *] <;> first | done | omega) | rfl) ?_
  simp only [List.set_cons_zero, List.set_cons_succ]
  refine vl_nil ?_
  refine (th_n ?_)
  refine VC_seq ?_
  refine VC_region ?_
  refine l_call (F := fun v L' => ∃ bS' mm oo AA cc, v = vP bS' 0 ∧ MapOf oo (mapE []) ∧ L' = SkR bS' mm oo AA cc [] ++ [.blk b8 23 (bys (k)), .blk b7 23 (bys (b)), .blk b6 23 (bys (a)), .blk b2 35 x]) Try.func9 rfl rfl rfl (fun w1 H1 => (new_calls w1).mono fun e w' h => ?_) rfl ?_
  · obtain ⟨bS', mm, h1, oo, AA, cc, hE, h2⟩ := h
    rw [List.append_nil] at h2
    exact ⟨_, _, h1, ⟨bS', mm, oo, AA, cc, rfl, hE, rfl⟩, (H1.join h2).perm List.perm_append_comm⟩
  rintro v L' ⟨bS, m1, o0, A0, c0, rfl, hE0, rfl⟩
  simp only [SkR, List.cons_append, List.nil_append, List.append_nil]
  refine vl_v (q_assign rfl) rfl ?_
  refine vl_nil ?_
  refine (th_n ?_)
  refine VC_seq ?_
  refine VC_seq ?_
  refine VC_region ?_
  refine vl_v (q_move rfl) rfl ?_
  refine vl_v (q_eqPN Try.underlying26 rfl rfl) rfl ?_
  refine vl_v (q_move rfl) rfl ?_
  refine vl_vg rfl (q_move rfl) rfl ?_
  refine vl_vg rfl (q_as (v := .bool true) (q_lss_k (q := 0) Try.underlying3 rfl rfl) (by simp; omega)) rfl ?_
  first | (refine vl_v (q_pickT rfl rfl) rfl ?_) | (refine vl_v (q_pickF rfl rfl) rfl ?_)
  refine vl_nil ?_
  refine (th_n ?_)
  refine VC_yes (rfl) ?_
  refine VC_seq ?_
  refine VC_region ?_
  refine vl_v (q_move rfl) rfl ?_
  refine vl_v (q_move rfl) rfl ?_
  refine vl_vg rfl (q_move rfl) rfl ?_
  refine vl_vg rfl (q_nePN Try.underlying26 rfl rfl) rfl ?_
  first | (refine vl_v (q_pickT rfl rfl) rfl ?_) | (refine vl_v (q_pickF rfl rfl) rfl ?_)
  refine vl_v (q_assign rfl) rfl ?_
  refine vl_nil ?_
  refine (th_n ?_)
  refine VC_ret ?_
  refine (th_r ?_)
  refine ⟨_, res1 rfl rfl, ?_⟩
  exact rfl
theorem skipsWhose.walk (w : World) (v0 : Value) (q : List UInt8 × List UInt8 × List UInt8) (h0 : Keys3V v0 q) (n : Int) (h1 : (Lit.int .i64 n).wf = true) :
    Calls Try.prog 5 #[v0, vI n] w fun e w' => e = .returned (.bool true) ∧ Kept [] w w' := by
  obtain ⟨a, b, k⟩ := q
  obtain ⟨rfl, la, lb, lk⟩ := h0
  simp only at la lb lk
  by_cases hn : 0 ≤ n
  · by_cases hab : a = b
    · exact whose_same a b k n la lb lk h1 hn hab w
    · exact whose_diff a b k n la lb lk h1 hn hab w
  · exact whose_bad a b k n la lb lk h1 hn w

namespace skipsWhose
open Go.ChangeShapes Go.WideShapes Go.ChangeAt Go.RowKit
theorem own : ownKnob Try.prog.godebug = none := by kernel_rfl
theorem laidOut : laidOutB Try.prog = true := by kernel_rfl
set_option maxRecDepth 100000 in
theorem lifted (os : Os) (started : os.Started) (H : Type) (enc : TypeId × Value → H) :
    ReturnsInHanded {} Try.checked os 5 .any (Rows.skipsWhoseSpec.pre6 enc Try.prog Try.f5 Rows.skipsWhoseRow.domain false) (Rows.skipsWhoseSpec.post enc Try.prog Try.f5 false true false false) := by
  refine returnsInHanded_of_change (C := Try.checked) own started (by kernel_rfl) Try.func5
    (ChangeSpec.witness6 (enc := enc) (C := Try.checked) false ⟨#[], #[(.agg (List.replicate 96 (Value.int .u8 0)).toArray), .int .i64 0], []⟩ 8 (by kernel_rfl) (by kernel_rfl) (by kernel_rfl) (by kernel_rfl)) ?_
  intro W base args ds gs before hval0 hW hcnd _
  have hval : ∀ (j : Nat) t v, Try.f5.params[j]? = some t → args[j]? = some v → Value.okWide Try.prog W .any base t v := hval0
  have hW' := hW
  obtain ⟨p, q, hA0, hV, rfl, hfz, hnd⟩ := hW
  have hA : DataW.TrodAll enc Try.prog W 0 (fun _ => true) true Try.f5.params.toList args.toList ds p := hA0
  rw [Try.params5] at hA hval
  obtain ⟨v0, vs0, d0, ds0, p0, q0, hargs, rfl, rfl, h0, r0⟩ := trodAll_cons hA
  obtain ⟨v1, vs1, d1, ds1, p1, q1, rfl, rfl, rfl, h1, r1⟩ := trodAll_cons r0
  obtain ⟨rfl, rfl, rfl⟩ := trodAll_nil r1
  obtain rfl : args = #[v0, v1] := by cases args; simp_all
  obtain ⟨rfl, rfl⟩ := trodVars_none hV
  have k0 := h0
  have lt0 : ∀ x ∈ p0, x.block < W.heap.size := by obtain ⟨m, hm⟩ := k0; exact DataW.trod_lt m _ _ _ hm
  have k1 := h1
  have lt1 : ∀ x ∈ p1, x.block < W.heap.size := by obtain ⟨m, hm⟩ := k1; exact DataW.trod_lt m _ _ _ hm
  obtain ⟨cs0, e0, f0⟩ := open_flat (ks := (List.replicate 96 .u8)) 6 (by kernel_rfl) (by kernel_rfl) (hval 0 35 v0 rfl rfl) h0
  subst e0
  obtain ⟨l0, g0⟩ := open_keys3 f0
  obtain ⟨n1, rfl, _, _, g1⟩ := open_int Try.underlying3 (hval 1 3 v1 rfl rfl) h1
  clear hA0 hval0
  refine (skipsWhose.walk W _ l0 g0 n1 g1).mono fun e W' ⟨he, hK⟩ => ?_
  subst he
  have bel := hK.below
  exact ⟨_, rfl, _, _, _, [], _, [], hW', trodAll_mk1 (shut_bool Try.underlying4 _), (trodAll_cons_mk (Below.trod laidOut (by kernel_rfl) (of_decide_eq_true (by kernel_rfl)) k0 bel lt0) (trodAll_cons_mk (Below.trod laidOut (by kernel_rfl) (of_decide_eq_true (by kernel_rfl)) k1 bel lt1) trodAll_mk0)), rfl, bel.frame _, fun h => by cases h⟩
theorem over : Rows.skipsWhoseRow.holds Try.pinned (OpenSpec.ofChange Rows.skipsWhoseSpec) :=
  OpenClaim.holds_of_wide 5 Try.f5 rfl rfl rfl rfl rfl rfl rfl ⟨rfl, rfl, rfl, rfl, rfl⟩ rfl rfl rfl rfl rfl (by kernel_rfl) Try.func5 (by kernel_rfl)
    (of_decide_eq_true (by kernel_rfl)) (by unfold Func.isWrapper; first | (rw [if_pos (by decide +kernel)]; kernel_rfl) | (rw [if_neg (by decide +kernel)]; exact ⟨rfl, rfl⟩))
    (fun os started H enc _ => lifted os started H enc)
theorem proved : Rows.SkipsWhoseSaid := over
end skipsWhose
/-- The row. -/
theorem skipsWhose_holds : Rows.SkipsWhoseSaid := skipsWhose.proved
#print axioms skipsWhose_holds
end Go.Proofs.Ytngdppffcdhhlaa
