/- What the functions of package seal do: a key's box, bytes turned, a mark. Conditions: lengths. -/
import Derived.Test.YtkadnmoephkklaaVW
import Derived.Test.YtkadnmoephkklaaC10
import Derived.Test.YtkadnmoephkklaaC04d
import Derived.Test.YtkadnmoephkklaaK01b
import Derived.Test.YtkadnmoephkklaaVS
import Derived.Test.YtkadnmoephkklaaPF
import Derived.Test.YtkadnmoephkklaaA03
import Derived.Test.YtkadnmoephkklaaC03k
import Derived.Test.YtkadnmoephkklaaVI
namespace Go.Proofs.Ytkadnmoephkklaa
open Go.RowKit Go.PBYtkadnmoephkklaa
set_option linter.unusedVariables false
set_option linter.unusedSimpArgs false
set_option maxRecDepth 10000

abbrev tTurn : List UInt8 := [116, 117, 114, 110]
abbrev tTag : List UInt8 := [116, 97, 103]
def n12 : List UInt8 := List.replicate 12 0
theorem n12_length : n12.length = 12 := by simp [n12]
set_option maxHeartbeats 1000000 in
theorem of5_calls (k a g : List UInt8) (ha : keyP k tTurn = a) (hg : keyP k tTag = g) (hk : k.length = 32) (w : World) :
    Calls Try.prog 44 #[.agg (bys k).toArray] w fun e w' => e = .returned (.agg (bys (a ++ g ++ k)).toArray) ∧ Kept [] w w' := by
  have la : a.length = 32 := by rw [← ha]; exact keyP_length ..
  have lg : g.length = 32 := by rw [← hg]; exact keyP_length ..
  have l64 : (a ++ g).length = 64 := by rw [List.length_append]; omega
  have l96 : (a ++ g ++ k).length = 96 := by rw [List.length_append]; omega
  refine enter (n := 16) (R := fun e L => e = .returned (.agg (bys (a ++ g ++ k)).toArray)) [.agg (bys k).toArray] Try.func44 rfl rfl rfl (St.refl w) ?_ (fun e w' L' h H => ⟨h, H.kept⟩)
  refine VC_seq ?_
  refine VC_region ?_
  refine l_boxA rfl rfl ?_
  intro b1
  refine l_allocA zr69 rfl ?_
  intro b2
  refine vl_nil ?_
  refine (th_n ?_)
  refine VC_seq ?_
  refine VC_region ?_
  first | (refine vl_v (q_loads 1 Try.underlying23 rfl rfl rfl sz23 (by first | omega | with_reducible assumption | (simp only [zb, zu, zw, zi, za]; omega) | (simp only [zs, zr, zm, za, zb, zu, zw, zi, zt, zd, zc, zn, *] <;> first | done | omega) | rfl)) rfl ?_) | (refine vl_v (q_loadsAt 1 Try.underlying23 rfl rfl rfl sz23 (by rfl) (by first | omega | with_reducible assumption | (simp only [zb, zu, zw, zi, za]; omega) | (simp only [zs, zr, zm, za, zb, zu, zw, zi, zt, zd, zc, zn, *] <;> first | done | omega) | rfl)) rfl ?_)
  refine l_litA (cs := strs [tTurn, tTag]) Try.underlying31 in9 (by decide) rfl rfl rfl rfl (one_all rfl) rfl rfl ?_
  intro b5
  refine l_callR Try.func22 rfl rfl rfl (fun w1 H1 => keys_calls k [tTurn, tTag] _ 2 2 hk rfl (by simp) (by intro x hx; simp only [List.mem_cons, List.not_mem_nil, or_false] at hx; rcases hx with rfl | rfl <;> decide) w1 (Reads.row 0 rfl w1 H1) (by omega)) rfl ?_
  intro A6 c6 hc6 hm6
  refine vl_v (q_assign rfl) rfl ?_
  refine vl_nil ?_
  refine (th_n ?_)
  refine VC_seq ?_
  refine VC_rowBlk (by omega) ?_
  intro bK more eA
  subst eA
  refine VC_drawV 8 [[], [0], [1], [], [3], [4], [2, 5], [], [6, 7], [8, 0, 1, 2, 3, 4, 5, 6, 7]] [[], [0], [0, 1], [], [3], [3, 4], [0, 1, 2, 3, 4, 5], [], [0, 1, 2, 3, 4, 5, 6, 7], [0, 1, 2, 3, 4, 5, 6, 7, 8]] rfl (by kernel_rfl) ?_
  refine qv_v (q_move rfl) ?_
  refine qv_v (q_idxS0 (m := 0) Try.underlying32 sz23 rfl rfl (by omega) rfl) ?_
  refine qv_v (q_loadsAt (vs := bys a) 0 Try.underlying23 rfl rfl rfl sz23 (by have h := keyPart (k := k) (ps := [tTurn, tTag]) (more := more) 0 (by simp) 0 rfl; rw [spreadP, show keyP k ([tTurn, tTag].getD 0 []) = a from ha] at h; exact h) (by rw [bys_length, la])) ?_
  refine qv_v (q_move rfl) ?_
  refine qv_v (q_idxS0 (m := 1) Try.underlying32 sz23 rfl rfl (by omega) rfl) ?_
  refine qv_v (q_loadsAt (vs := bys g) 0 Try.underlying23 rfl rfl rfl sz23 (by have h := keyPart (k := k) (ps := [tTurn, tTag]) (more := more) 1 (by simp) 32 rfl; rw [spreadP, show keyP k ([tTurn, tTag].getD 1 []) = g from hg] at h; exact h) (by rw [bys_length, lg])) ?_
  refine qv_v (q_buildS (tot := 64) (sizes := [32, 32]) (c' := bys (a ++ g)) (by kernel_rfl) rfl rfl rfl rfl (by simp only [List.map_cons, List.map_nil, cellsL, Value.cells, bys_length, la, lg]) (by simp only [flatV, cellsL, Value.cells, List.map_cons, List.map_nil, List.flatten_cons, List.flatten_nil, List.append_nil, bys_append])) ?_
  first | (refine qv_v (q_loads 3 Try.underlying23 rfl rfl rfl sz23 (by first | omega | with_reducible assumption | (simp only [zb, zu, zw, zi, za]; omega) | (simp only [zs, zr, zm, za, zb, zu, zw, zi, zt, zd, zc, zn, *] <;> first | done | omega) | rfl)) ?_) | (refine qv_v (q_loadsAt 3 Try.underlying23 rfl rfl rfl sz23 (by rfl) (by first | omega | with_reducible assumption | (simp only [zb, zu, zw, zi, za]; omega) | (simp only [zs, zr, zm, za, zb, zu, zw, zi, zt, zd, zc, zn, *] <;> first | done | omega) | rfl)) ?_)
  refine qv_end ?_
  refine VL.keep (Sub.cons (s := 0) rfl (Sub.cons (s := 1) rfl (Sub.cons (s := 2) rfl (Sub.cons (s := 3) rfl (Sub.cons (s := 13) rfl (Sub.cons (s := 14) rfl (Sub.nil _))))))) ?_
  refine vl_v (q_buildS (tot := 96) (sizes := [64, 32]) (c' := bys (a ++ g ++ k)) (by kernel_rfl) rfl rfl rfl rfl (by simp only [List.map_cons, List.map_nil, cellsL, Value.cells, bys_length, l64, hk]) (by simp only [flatV, cellsL, Value.cells, List.map_cons, List.map_nil, List.flatten_cons, List.flatten_nil, List.append_nil, bys_append])) rfl ?_
  refine l_storeA 2 rfl rfl rfl sz69 (by first | omega | with_reducible assumption | (simp only [zb, zu, zw, zi, za]; omega) | (simp only [zs, zr, zm, za, zb, zu, zw, zi, zt, zd, zc, zn, *] <;> first | done | omega) | rfl) (by first | (with_reducible first | exact bys_one _ | exact u32s_one _ | exact u64s_one _ | exact i64s_one _ | exact n64s_one _ | assumption) | exact bys_one _ | exact u32s_one _ | exact u64s_one _ | exact i64s_one _ | exact one_all rfl | (refine app_one ?_ ?_ <;> first | exact bys_one _ | (simp; done))) (by first | omega | with_reducible assumption | (simp only [zb, zu, zw, zi, za]; omega) | (simp only [zs, zr, zm, za, zb, zu, zw, zi, zt, zd, zc, zn, *] <;> first | done | omega) | rfl) ?_
  simp only [List.set_cons_zero, List.set_cons_succ]
  refine vl_nil ?_
  refine (qn_n (th_n ?_))
  refine VC_ret ?_
  refine ⟨_, resC1 2 rfl Try.underlying69 rfl rfl rfl sz69 (by first | omega | with_reducible assumption | (simp only [zb, zu, zw, zi, za]; omega) | (simp only [zs, zr, zm, za, zb, zu, zw, zi, zt, zd, zc, zn, *] <;> first | done | omega) | rfl), ?_⟩
  exact rfl
set_option maxHeartbeats 1000000 in
theorem turned5_calls (a g k b : List UInt8) (la : a.length = 32) (lg : g.length = 32) (lk : k.length = 32) (B : Option Addr) (lb c : Nat) (hlb : lb = b.length) (hb : b.length ≤ 100000) (w : World) (hB : SlAt w B (bys b)) (hc : b.length ≤ c) :
    Calls Try.prog 45 #[.agg (bys (a ++ g ++ k)).toArray, .slice B lb c] w fun e w' => ∃ v, e = .returned v ∧ St [] w [.row 5 1 v b.length (bys (turnB a n12 0 b))] w' := by
  subst hlb
  have l96 : (a ++ g ++ k).length = 96 := by rw [List.length_append, List.length_append]; omega
  refine enter (n := 11) (R := fun e L => ∃ v M, e = .returned v ∧ L = .row 5 1 v b.length (bys (turnB a n12 0 b)) :: M) [.agg (bys (a ++ g ++ k)).toArray, .slice B b.length c] Try.func45 rfl rfl rfl (St.refl w) ?_ endRow
  refine VC_seq ?_
  refine VC_region ?_
  refine l_boxA rfl rfl ?_
  intro b2
  refine vl_v (q_assign rfl) rfl ?_
  refine vl_nil ?_
  refine (th_n ?_)
  refine VC_seq ?_
  refine VC_region ?_
  refine vl_v (q_fldA fo69_0 (by decide) rfl rfl) rfl ?_
  refine vl_v (q_fldA fo67_0 (by decide) rfl rfl) rfl ?_
  refine vl_v (q_loadsAt (vs := bys a) 0 Try.underlying23 rfl rfl rfl sz23 (by rw [List.drop_zero, bys_take, List.append_assoc, List.take_left' la]) (by rw [bys_length, la])) rfl ?_
  refine vl_v (q_build (c' := bys n12) rfl (by kernel_rfl)) rfl ?_
  refine vl_v (q_move rfl) rfl ?_
  refine l_callR Try.func55 rfl rfl rfl (fun w1 H1 => turn_calls a n12 0 b B c la n12_length w1 (Reads.old hB w1 H1) hc hb) rfl ?_
  intro A10 c10 hc10 hm10
  refine vl_v (q_assign rfl) rfl ?_
  refine vl_nil ?_
  refine (th_n ?_)
  refine VC_ret ?_
  refine ⟨_, res1 rfl rfl, ?_⟩
  exact ⟨_, _, rfl, rfl⟩
theorem bsAt_of {w : World} {A : Option Addr} {l : List UInt8} {n c : Nat} (hn : n = l.length) (hc : n ≤ c) (h : SlAt w A (bys l)) : BsAt w (.slice A n c) l := by
  subst hn
  exact ⟨A, c, rfl, hc, h⟩
theorem rowsAt3 {w : World} {A : Option Addr} {c : Nat} {u1 u2 u3 : Value} {l1 l2 l3 : List UInt8} (hA : SlAt w A [u1, u2, u3]) (hc : 3 ≤ c) (h1 : BsAt w u1 l1) (h2 : BsAt w u2 l2) (h3 : BsAt w u3 l3) : RowsAt w (.slice A 3 c) [l1, l2, l3] := by
  refine ⟨A, c, [u1, u2, u3], rfl, hc, hA, rfl, ?_⟩
  intro i u l hu hl
  match i, hu, hl with
  | 0, hu, hl => simp at hu hl; subst hu; subst hl; exact h1
  | 1, hu, hl => simp at hu hl; subst hu; subst hl; exact h2
  | 2, hu, hl => simp at hu hl; subst hu; subst hl; exact h3
  | i + 3, hu, _ => simp at hu
theorem join3_length (k b c : List UInt8) (hk : k.length = 32) : (joinB [k, b, c]).length = 44 + b.length + c.length := by
  simp only [joinB, List.length_append, highB_length, hk, List.length_nil]
  omega
set_option maxHeartbeats 1000000 in
theorem mark5_calls (a g k b c j m : List UInt8) (hj : joinB [k, b, c] = j) (hm : macB g j = m) (la : a.length = 32) (lg : g.length = 32) (lk : k.length = 32) (B C : Option Addr) (lb lc cb cc : Nat) (hlb : lb = b.length) (hlc : lc = c.length) (hb : b.length ≤ 100000) (hc : c.length ≤ 100000) (w : World) (hB : SlAt w B (bys b)) (hC : SlAt w C (bys c)) (hcb : lb ≤ cb) (hcc : lc ≤ cc) :
    Calls Try.prog 46 #[.agg (bys (a ++ g ++ k)).toArray, .slice B lb cb, .slice C lc cc] w fun e w' => e = .returned (.agg (bys m).toArray) ∧ Kept [] w w' := by
  have l64 : (a ++ g).length = 64 := by rw [List.length_append]; omega
  have l96 : (a ++ g ++ k).length = 96 := by rw [List.length_append]; omega
  have lj : j.length = 44 + b.length + c.length := by rw [← hj]; exact join3_length k b c lk
  have lm : m.length = 32 := by rw [← hm]; exact macB_length ..
  have eg : ((bys (a ++ g ++ k)).drop 32).take 32 = bys g := by rw [bys_drop, bys_take, List.append_assoc, List.drop_left' la, List.take_left' lg]
  have ek : ((bys (a ++ g ++ k)).drop 64).take 32 = bys k := by rw [bys_drop, bys_take, List.drop_left' l64, List.take_of_length_le (by omega)]
  obtain ⟨x, hx⟩ : ∃ x, bys (a ++ g ++ k) = x := ⟨_, rfl⟩
  have lx : x.length = 96 := by rw [← hx, bys_length, l96]
  have ox : ∀ v ∈ x, v.oneCell' = true := by rw [← hx]; exact bys_one _
  rw [hx] at eg ek ⊢
  refine enter (n := 23) (R := fun e L => e = .returned (.agg (bys m).toArray)) [.agg x.toArray, .slice B lb cb, .slice C lc cc] Try.func46 rfl rfl rfl (St.refl w) ?_ (fun e w' L' h H => ⟨h, H.kept⟩)
  refine VC_seq ?_
  refine VC_region ?_
  refine l_boxA rfl rfl ?_
  intro b3
  refine l_allocA zr23 rfl ?_
  intro b6
  refine vl_nil ?_
  refine (th_n ?_)
  refine VC_seq ?_
  refine VC_drawQ 15 2 [[], [0], [1], [], [3], [], [], [4, 5, 6], [7], [2, 8], [9], [10], [10], [], [13, 11, 9, 0, 1, 2, 3, 4, 5, 6, 7, 8, 10], [12, 14, 0, 1, 2, 3, 4, 5, 6, 7, 8, 9, 10, 11, 13]] [[], [0], [0, 1], [], [3], [], [], [3, 4, 5, 6], [3, 4, 5, 6, 7], [0, 1, 2, 3, 4, 5, 6, 7, 8], [0, 1, 2, 3, 4, 5, 6, 7, 8, 9], [0, 1, 2, 3, 4, 5, 6, 7, 8, 9, 10], [0, 1, 2, 3, 4, 5, 6, 7, 8, 9, 10], [], [0, 1, 2, 3, 4, 5, 6, 7, 8, 9, 10, 11, 13], [0, 1, 2, 3, 4, 5, 6, 7, 8, 9, 10, 11, 12, 13, 14]] [([], [], [], [0, 1], []), ([0], [], [], [0, 1], [0]), ([0, 1], [], [], [0, 1], [0, 1]), ([], [], [], [0, 1], []), ([3], [], [], [0, 1], [3]), ([], [], [], [0, 1], []), ([], [], [], [0, 1], []), ([3, 4, 5, 6], [], [], [0, 1], [3, 4, 5, 6]), ([3, 4, 5, 6, 7], [], [], [0, 1], [3, 4, 5, 6, 7]), ([0, 1, 2, 3, 4, 5, 6, 7, 8], [], [], [0, 1], [0, 1, 2, 3, 4, 5, 6, 7, 8]), ([0, 1, 2, 3, 4, 5, 6, 7, 8, 9], [], [], [0, 1], [0, 1, 2, 3, 4, 5, 6, 7, 8, 9]), ([0, 1, 2, 3, 4, 5, 6, 7, 8, 9, 10], [], [], [0, 1], [0, 1, 2, 3, 4, 5, 6, 7, 8, 9, 10]), ([0, 1, 2, 3, 4, 5, 6, 7, 8, 9, 10], [], [], [0, 1], [0, 1, 2, 3, 4, 5, 6, 7, 8, 9, 10]), ([], [], [], [0, 1], []), ([0, 1, 2, 3, 4, 5, 6, 7, 8, 9, 10, 11, 13], [], [13], [0, 1], [0, 1, 2, 3, 4, 5, 6, 7, 8, 9, 10, 11])] [0, 1] [0, 1, 2, 3, 4, 5, 6, 7, 8, 9, 10, 11, 12, 14] rfl rfl (by kernel_rfl) ?_
  refine qp_v (fun xs gs hx => q_fldA fo69_0 (by decide) rfl rfl) ?_
  refine qp_v (fun xs gs hx => q_fldA fo67_1 (by decide) rfl rfl) ?_
  refine qp_v (fun xs gs hx => q_slcA Try.underlying23 sz5 rfl rfl rfl rfl (.inl rfl) (by omega) (by omega) (by omega) (by omega) (by (try simp only [Nat.mul_one, Nat.zero_add, Nat.zero_mul, Nat.mul_zero, Nat.add_zero]) <;> rfl)) ?_
  refine qp_v (fun xs gs hx => q_fldA fo69_1 (by decide) rfl rfl) ?_
  refine qp_v (fun xs gs hx => q_slcA Try.underlying23 sz5 rfl rfl rfl rfl (.inl rfl) (by omega) (by omega) (by omega) (by omega) (by (try simp only [Nat.mul_one, Nat.zero_add, Nat.zero_mul, Nat.mul_zero, Nat.add_zero]) <;> rfl)) ?_
  refine qp_v (fun xs gs hx => q_move rfl) ?_
  refine qp_v (fun xs gs hx => q_move rfl) ?_
  refine qp_a (fun xs gs hx => q_litA (cs := [.slice (some ⟨b3, 64, none⟩) 32 32, .slice B lb cb, .slice C lc cc]) Try.underlying93 in24 (by decide) rfl rfl rfl rfl (one_all rfl) rfl) ?_
  refine qp_a (Fv := fun _ _ => isSl j.length) (N := fun _ _ => nRow 5 1 j.length (bys j)) (fun xs gs hx => ?_) ?_
  · obtain ⟨b17, e17⟩ := hx.1 rfl
    simp only [e17]
    first | (exact q_callR Try.func56 rfl rfl rfl (fun w1 H1 => by rw [← hj]; exact join_calls [k, b, c] _ w1 (rowsAt3 (Reads.rowV 2 e17 rfl w1 H1) (by omega) (bsAt_of lk.symm (by omega) (Reads.blkTake 1 64 32 rfl ek w1 H1)) (bsAt_of hlb hcb (Reads.old hB w1 H1)) (bsAt_of hlc hcc (Reads.old hC w1 H1))) (by rw [hj]; omega) (by simp)))
  refine qp_v (f := fun _ _ => .tuple #[.agg (bys m).toArray, .int .i64 0]) (fun xs gs hx => ?_) ?_
  · obtain ⟨A18, c18, e18, h18, h18'⟩ := hx.2.1 rfl
    simp only [e18]
    first | (exact q_callV Try.func24 rfl rfl rfl (fun w1 H1 => hm ▸ mac_calls g j _ _ 32 c18 32 lg.symm (by omega) (by omega) (by omega) w1 (Reads.blkTake 1 32 32 rfl eg w1 H1) (Reads.rowV 3 e18 rfl w1 H1) (by omega) (by omega)))
  refine qp_v (fun xs gs hx => q_move rfl) ?_
  refine qp_v (fun xs gs hx => q_ext rfl rfl) ?_
  refine qp_v (fun xs gs hx => q_ext rfl rfl) ?_
  refine qp_a (fun xs gs hx => q_alloc zr23 rfl) ?_
  refine qp_storeN (fun xs gs hx => rfl) (fun xs gs hx => hx.2.2.1 rfl) (fun xs gs hx => rfl) (fun xs gs hx => List.append_nil _) sz23 (fun xs gs hx => by first | omega | with_reducible assumption | (simp only [zb, zu, zw, zi, za]; omega) | (simp only [zs, zr, zm, za, zb, zu, zw, zi, zt, zd, zc, zn, *] <;> first | done | omega) | rfl) (fun xs gs hx => by first | (with_reducible first | exact bys_one _ | exact u32s_one _ | exact u64s_one _ | exact i64s_one _ | exact n64s_one _ | assumption) | exact bys_one _ | exact u32s_one _ | exact u64s_one _ | exact i64s_one _ | exact one_all rfl | (refine app_one ?_ ?_ <;> first | exact bys_one _ | (simp; done))) (fun xs gs hx => by first | omega | with_reducible assumption | (simp only [zb, zu, zw, zi, za]; omega) | (simp only [zs, zr, zm, za, zb, zu, zw, zi, zt, zd, zc, zn, *] <;> first | done | omega) | rfl) ?_
  refine qp_end ?_
  intro xs gs hx
  obtain ⟨⟨b17, e17⟩, ⟨A18, c18, e18, hc18, hm18⟩, ⟨b7, e7⟩, _, _⟩ := hx
  simp only [selI, ownsA, List.contains_cons, List.contains_nil, Nat.reduceBEq, Nat.reduceAdd, Bool.or_false, Bool.or_true, Bool.false_or, Bool.true_or, mask, nRow, nBlk, nRowT, tupAt_0, tupAt_1, List.append_assoc, List.nil_append, List.append_nil, List.cons_append, List.singleton_append, e17, e18, e7]
  refine VL.keep (Sub.cons (s := 0) rfl (Sub.cons (s := 1) rfl (Sub.cons (s := 2) rfl (Sub.cons (s := 3) rfl (Sub.cons (s := 6) rfl (Sub.cons (s := 21) rfl (Sub.cons (s := 7) rfl (Sub.nil _)))))))) ?_
  refine vl_v (q_assign rfl) rfl ?_
  refine vl_nil ?_
  refine (qn_n (th_n ?_))
  refine VC_seq ?_
  refine VC_region ?_
  first | (refine vl_v (q_loads 4 Try.underlying23 rfl rfl rfl sz23 (by first | omega | with_reducible assumption | (simp only [zb, zu, zw, zi, za]; omega) | (simp only [zs, zr, zm, za, zb, zu, zw, zi, zt, zd, zc, zn, *] <;> first | done | omega) | rfl)) rfl ?_) | (refine vl_v (q_loadsAt 4 Try.underlying23 rfl rfl rfl sz23 (by rfl) (by first | omega | with_reducible assumption | (simp only [zb, zu, zw, zi, za]; omega) | (simp only [zs, zr, zm, za, zb, zu, zw, zi, zt, zd, zc, zn, *] <;> first | done | omega) | rfl)) rfl ?_)
  refine l_storeA 0 rfl rfl rfl sz23 (by first | omega | with_reducible assumption | (simp only [zb, zu, zw, zi, za]; omega) | (simp only [zs, zr, zm, za, zb, zu, zw, zi, zt, zd, zc, zn, *] <;> first | done | omega) | rfl) (by first | (with_reducible first | exact bys_one _ | exact u32s_one _ | exact u64s_one _ | exact i64s_one _ | exact n64s_one _ | assumption) | exact bys_one _ | exact u32s_one _ | exact u64s_one _ | exact i64s_one _ | exact one_all rfl | (refine app_one ?_ ?_ <;> first | exact bys_one _ | (simp; done))) (by first | omega | with_reducible assumption | (simp only [zb, zu, zw, zi, za]; omega) | (simp only [zs, zr, zm, za, zb, zu, zw, zi, zt, zd, zc, zn, *] <;> first | done | omega) | rfl) ?_
  simp only [List.set_cons_zero, List.set_cons_succ]
  refine vl_nil ?_
  refine (th_n ?_)
  refine VC_ret ?_
  refine ⟨_, resC1 0 rfl Try.underlying23 rfl rfl rfl sz23 (by first | omega | with_reducible assumption | (simp only [zb, zu, zw, zi, za]; omega) | (simp only [zs, zr, zm, za, zb, zu, zw, zi, zt, zd, zc, zn, *] <;> first | done | omega) | rfl), ?_⟩
  exact rfl
end Go.Proofs.Ytkadnmoephkklaa
namespace Go.Proofs.Ytkadnmoephkklaa
open Go.RowKit Go.PBYtkadnmoephkklaa
set_option linter.unusedVariables false
set_option linter.unusedSimpArgs false
set_option maxRecDepth 10000

/-- a key's own bytes, closed: bytes turned, and their mark -/
def turnW (k b : List UInt8) : List UInt8 := turnB (keyP k tTurn) n12 0 b
def markW (k b c : List UInt8) : List UInt8 := macB (keyP k tTag) (joinB [k, b, c])
def closeW (k b t : List UInt8) : List UInt8 := turnW k t ++ markW k b (turnW k t)
theorem turnW_length (k b : List UInt8) : (turnW k b).length = b.length := turnB_length ..
theorem markW_length (k b c : List UInt8) : (markW k b c).length = 32 := macB_length ..
theorem closeW_length (k b t : List UInt8) : (closeW k b t).length = t.length + 32 := by rw [closeW, List.length_append, turnW_length, markW_length]
set_option maxHeartbeats 1000000 in
theorem close5_walk (k b t a g u m : List UInt8) (ha : keyP k tTurn = a) (hg : keyP k tTag = g) (hu : turnB a n12 0 t = u) (hm : macB g (joinB [k, b, u]) = m) (hk : k.length = 32) (B C : Option Addr) (lb lc cb cc : Nat) (hlb : lb = b.length) (hlc : lc = t.length) (hb : b.length ≤ 10000) (hc : t.length ≤ 10000) (w : World) (hB : SlAt w B (bys b)) (hC : SlAt w C (bys t)) (hcb : lb ≤ cb) (hcc : lc ≤ cc) :
    Calls Try.prog 34 #[.agg (bys k).toArray, .slice B lb cb, .slice C lc cc] w fun e w' => ∃ v, e = .returned v ∧ St [] w [.row 5 1 v (t.length + 32) (bys (u ++ m))] w' := by
  have la : a.length = 32 := by rw [← ha]; exact keyP_length ..
  have lg : g.length = 32 := by rw [← hg]; exact keyP_length ..
  have lu : u.length = t.length := by rw [← hu]; exact turnB_length ..
  have lm : m.length = 32 := by rw [← hm]; exact macB_length ..
  obtain ⟨x, hx⟩ : ∃ x, bys (a ++ g ++ k) = x := ⟨_, rfl⟩
  have lx : x.length = 96 := by rw [← hx, bys_length, List.length_append, List.length_append]; omega
  have ox : ∀ v ∈ x, v.oneCell' = true := by rw [← hx]; exact bys_one _
  refine enter (n := 22) (R := fun e L => ∃ v, e = .returned v ∧ ∀ w', St [] w L w' → St [] w [.row 5 1 v (t.length + 32) (bys (u ++ m))] w') [.agg (bys k).toArray, .slice B lb cb, .slice C lc cc] Try.func34 rfl rfl rfl (St.refl w) ?_ (fun e w' L' h H => by obtain ⟨v, h1, h2⟩ := h; exact ⟨v, h1, h2 w' H⟩)
  refine VC_seq ?_
  refine VC_region ?_
  refine l_boxA rfl rfl ?_
  intro b3
  refine vl_v (q_assign rfl) rfl ?_
  refine vl_nil ?_
  refine (th_n ?_)
  refine VC_seq ?_
  refine VC_region ?_
  first | (refine vl_v (q_loads 0 Try.underlying23 rfl rfl rfl sz23 (by first | omega | with_reducible assumption | (simp only [zb, zu, zw, zi, za]; omega) | (simp only [zs, zr, zm, za, zb, zu, zw, zi, zt, zd, zc, zn, *] <;> first | done | omega) | rfl)) rfl ?_) | (refine vl_v (q_loadsAt 0 Try.underlying23 rfl rfl rfl sz23 (by rfl) (by first | omega | with_reducible assumption | (simp only [zb, zu, zw, zi, za]; omega) | (simp only [zs, zr, zm, za, zb, zu, zw, zi, zt, zd, zc, zn, *] <;> first | done | omega) | rfl)) rfl ?_)
  refine vl_v (q_callV Try.func44 rfl rfl rfl (fun w1 H1 => hx ▸ of5_calls k a g ha hg hk w1)) rfl ?_
  refine l_allocA zr69 rfl ?_
  intro b7
  refine l_storeA 0 rfl rfl rfl sz69 (by first | omega | with_reducible assumption | (simp only [zb, zu, zw, zi, za]; omega) | (simp only [zs, zr, zm, za, zb, zu, zw, zi, zt, zd, zc, zn, *] <;> first | done | omega) | rfl) (by first | (with_reducible first | exact bys_one _ | exact u32s_one _ | exact u64s_one _ | exact i64s_one _ | exact n64s_one _ | assumption) | exact bys_one _ | exact u32s_one _ | exact u64s_one _ | exact i64s_one _ | exact one_all rfl | (refine app_one ?_ ?_ <;> first | exact bys_one _ | (simp; done))) (by first | omega | with_reducible assumption | (simp only [zb, zu, zw, zi, za]; omega) | (simp only [zs, zr, zm, za, zb, zu, zw, zi, zt, zd, zc, zn, *] <;> first | done | omega) | rfl) ?_
  simp only [List.set_cons_zero, List.set_cons_succ]
  refine vl_nil ?_
  refine (th_n ?_)
  refine VC_seq ?_
  refine VC_region ?_
  first | (refine vl_v (q_loads 0 Try.underlying69 rfl rfl rfl sz69 (by first | omega | with_reducible assumption | (simp only [zb, zu, zw, zi, za]; omega) | (simp only [zs, zr, zm, za, zb, zu, zw, zi, zt, zd, zc, zn, *] <;> first | done | omega) | rfl)) rfl ?_) | (refine vl_v (q_loadsAt 0 Try.underlying69 rfl rfl rfl sz69 (by rfl) (by first | omega | with_reducible assumption | (simp only [zb, zu, zw, zi, za]; omega) | (simp only [zs, zr, zm, za, zb, zu, zw, zi, zt, zd, zc, zn, *] <;> first | done | omega) | rfl)) rfl ?_)
  refine vl_v (q_move rfl) rfl ?_
  refine l_callR Try.func45 rfl rfl rfl (fun w1 H1 => by have h := turned5_calls a g k t la lg hk C lc cc hlc (by omega) w1 (Reads.old hC w1 H1) (by omega); rw [hu, hx] at h; exact h) rfl ?_
  intro A14 c14 hc14 hm14
  refine vl_v (q_assign rfl) rfl ?_
  refine vl_nil ?_
  refine (th_n ?_)
  refine VC_seq ?_
  refine VC_region ?_
  first | (refine vl_v (q_loads 1 Try.underlying69 rfl rfl rfl sz69 (by first | omega | with_reducible assumption | (simp only [zb, zu, zw, zi, za]; omega) | (simp only [zs, zr, zm, za, zb, zu, zw, zi, zt, zd, zc, zn, *] <;> first | done | omega) | rfl)) rfl ?_) | (refine vl_v (q_loadsAt 1 Try.underlying69 rfl rfl rfl sz69 (by rfl) (by first | omega | with_reducible assumption | (simp only [zb, zu, zw, zi, za]; omega) | (simp only [zs, zr, zm, za, zb, zu, zw, zi, zt, zd, zc, zn, *] <;> first | done | omega) | rfl)) rfl ?_)
  refine vl_v (q_move rfl) rfl ?_
  refine vl_v (q_move rfl) rfl ?_
  refine vl_v (q_callV Try.func46 rfl rfl rfl (fun w1 H1 => by have h := mark5_calls a g k b u _ m rfl hm la lg hk B A14 lb t.length cb c14 hlb lu.symm (by omega) (by omega) w1 (Reads.old hB w1 H1) (Reads.row 0 rfl w1 H1) hcb (by omega); rw [hx] at h; exact h)) rfl ?_
  refine l_allocA zr23 rfl ?_
  intro b9
  refine l_storeA 0 rfl rfl rfl sz23 (by first | omega | with_reducible assumption | (simp only [zb, zu, zw, zi, za]; omega) | (simp only [zs, zr, zm, za, zb, zu, zw, zi, zt, zd, zc, zn, *] <;> first | done | omega) | rfl) (by first | (with_reducible first | exact bys_one _ | exact u32s_one _ | exact u64s_one _ | exact i64s_one _ | exact n64s_one _ | assumption) | exact bys_one _ | exact u32s_one _ | exact u64s_one _ | exact i64s_one _ | exact one_all rfl | (refine app_one ?_ ?_ <;> first | exact bys_one _ | (simp; done))) (by first | omega | with_reducible assumption | (simp only [zb, zu, zw, zi, za]; omega) | (simp only [zs, zr, zm, za, zb, zu, zw, zi, zt, zd, zc, zn, *] <;> first | done | omega) | rfl) ?_
  simp only [List.set_cons_zero, List.set_cons_succ]
  refine vl_nil ?_
  refine (th_n ?_)
  refine VC_seq ?_
  refine VC_region ?_
  refine vl_v (q_move rfl) rfl ?_
  refine vl_v (q_slcA Try.underlying23 sz5 rfl rfl rfl rfl (.inl rfl) (by omega) (by omega) (by omega) (by omega) (by (try simp only [Nat.mul_one, Nat.zero_add, Nat.zero_mul, Nat.mul_zero, Nat.add_zero]) <;> rfl)) rfl ?_
  refine l_append 1 rfl rfl rfl Try.underlying24 Try.underlying24 in5 rfl (by decide) (Reads.blk 0 rfl) (by first | omega | with_reducible assumption | (simp only [zb, zu, zw, zi, za]; omega) | (simp only [zs, zr, zm, za, zb, zu, zw, zi, zt, zd, zc, zn, *] <;> first | done | omega) | rfl) (by first | (with_reducible first | exact bys_one _ | exact u32s_one _ | exact u64s_one _ | exact i64s_one _ | exact n64s_one _ | assumption) | exact bys_one _ | exact u32s_one _ | exact u64s_one _ | exact i64s_one _ | exact one_all rfl | (refine app_one ?_ ?_ <;> first | exact bys_one _ | (simp; done))) (by first | omega | with_reducible assumption | (simp only [zb, zu, zw, zi, za]; omega) | (simp only [zs, zr, zm, za, zb, zu, zw, zi, zt, zd, zc, zn, *] <;> first | done | omega) | rfl) (by first | omega | with_reducible assumption | (simp only [zb, zu, zw, zi, za]; omega) | (simp only [zs, zr, zm, za, zb, zu, zw, zi, zt, zd, zc, zn, *] <;> first | done | omega) | rfl) rfl ?_
  intro A21 c21 hc21
  simp only [List.set_cons_zero, List.set_cons_succ, ← bys_append, ← u32s_append, ← u64s_append, ← i64s_append, List.nil_append, Nat.zero_add]
  refine vl_v (q_assign rfl) rfl ?_
  refine vl_nil ?_
  refine (th_n ?_)
  refine VC_ret ?_
  refine ⟨_, res1 rfl rfl, ?_⟩
  exact ⟨_, rfl, fun w' H' => St.pick H' (ks := [1]) (by decide) rfl⟩
theorem close5_calls (k b t : List UInt8) (hk : k.length = 32) (B C : Option Addr) (lb lc cb cc : Nat) (hlb : lb = b.length) (hlc : lc = t.length) (hb : b.length ≤ 10000) (hc : t.length ≤ 10000) (w : World) (hB : SlAt w B (bys b)) (hC : SlAt w C (bys t)) (hcb : lb ≤ cb) (hcc : lc ≤ cc) :
    Calls Try.prog 34 #[.agg (bys k).toArray, .slice B lb cb, .slice C lc cc] w fun e w' => ∃ v, e = .returned v ∧ St [] w [.row 5 1 v (t.length + 32) (bys (closeW k b t))] w' :=
  close5_walk k b t _ _ _ _ rfl rfl rfl rfl hk B C lb lc cb cc hlb hlc hb hc w hB hC hcb hcc
end Go.Proofs.Ytkadnmoephkklaa
namespace Go.Proofs.Ytkadnmoephkklaa
open Go.RowKit Go.PBYtkadnmoephkklaa
set_option linter.unusedVariables false
set_option linter.unusedSimpArgs false
set_option maxRecDepth 10000

def partC (t : List UInt8) (n : Nat) : List Value := bys t ++ [vN n]
theorem partC_length {t : List UInt8} {n : Nat} (h : t.length = 32) : (partC t n).length = 33 := by rw [partC, List.length_append, bys_length, h]; rfl
theorem partC_one (t : List UInt8) (n : Nat) : ∀ v ∈ partC t n, v.oneCell' = true := by
  intro v hv
  rcases List.mem_append.1 hv with h | h
  · exact bys_one _ v h
  · rw [List.mem_singleton.1 h]; rfl
theorem partC_at {t : List UInt8} {n : Nat} (h : t.length = 32) : (partC t n)[32]? = some (vN n) := by
  rw [partC, List.getElem?_append_right (by rw [bys_length, h]; exact Nat.le_refl _), bys_length, h]; rfl
theorem partC_tag {t : List UInt8} {n : Nat} (h : t.length = 32) : ((partC t n).drop 0).take 32 = bys t := by
  rw [List.drop_zero, partC, List.take_left' (by rw [bys_length, h])]
theorem partC_splice {t u : List UInt8} {n : Nat} (ht : t.length = 32) (hu : u.length = 32) : splice (partC t n) 0 ((bys u).take (min 32 32)) = partC u n := by
  rw [List.take_of_length_le (by rw [bys_length, hu]; exact Nat.le_refl _), splice, List.take_zero, List.nil_append, bys_length, hu, Nat.zero_add, partC, List.drop_left' (by rw [bys_length, ht])]
  rfl
set_option maxHeartbeats 1000000 in
theorem part_good (c t : List UInt8) (n lc cc : Nat) (C : Option Addr) (hn : c.length = n + 32) (ht : c.drop n = t) (hlc : lc = c.length) (hcc : lc ≤ cc) (hl : c.length ≤ 100000) (w : World) (hC : SlAt w C (bys c)) :
    Calls Try.prog 47 #[.slice C lc cc] w fun e w' => e = .returned (.tuple #[.agg (partC t n).toArray, .bool true]) ∧ Kept [] w w' := by
  subst hlc
  have lt : t.length = 32 := by rw [← ht, List.length_drop]; omega
  have l33 := partC_length (n := n) lt
  have o33 := partC_one t n
  have l0 := partC_length (t := List.replicate 32 0) (n := n) (by simp)
  refine enter (n := 21) (R := fun e L => e = .returned (.tuple #[.agg (partC t n).toArray, .bool true])) [.slice C c.length cc] Try.func47 rfl rfl rfl (St.refl w) ?_ (fun e w' L' h H => ⟨h, H.kept⟩)
  refine VC_seq ?_
  refine VC_region ?_
  refine l_allocA zr74 rfl ?_
  intro b2
  refine vl_v (q_assign rfl) rfl ?_
  refine vl_nil ?_
  refine (th_n ?_)
  refine VC_seq ?_
  refine VC_region ?_
  refine l_allocA zr74 rfl ?_
  intro b4
  refine vl_nil ?_
  refine (th_n ?_)
  refine VC_seq ?_
  refine VC_region ?_
  refine vl_v (q_move rfl) rfl ?_
  refine vl_v (q_lenS Try.underlying24 rfl) rfl ?_
  refine vl_v (q_as (v := vN n) (q_sub_n (q := 32) (p := c.length) rfl rfl (by omega) (by omega)) (by rw [hn]; rfl)) rfl ?_
  refine vl_v (q_fldA fo74_1 (by decide) rfl rfl) rfl ?_
  first | (refine l_stI 0 rfl rfl rfl sz3 (by first | omega | with_reducible assumption | (simp only [zb, zu, zw, zi, za]; omega) | (simp only [zs, zr, zm, za, zb, zu, zw, zi, zt, zd, zc, zn, *] <;> first | done | omega) | rfl) ?_) | (refine l_store1 0 rfl rfl rfl sz3 rfl (by first | decide | simp) ?_)
  simp only [List.set_cons_zero, List.set_cons_succ]
  refine vl_nil ?_
  refine (th_n ?_)
  refine VC_seq ?_
  refine VC_seq ?_
  rw [show (bys (List.replicate 32 0) ++ [Value.int .i64 0]).set 32 (vN n) = partC (List.replicate 32 0) n from rfl]
  refine VC_region ?_
  refine vl_v (q_fldA fo74_1 (by decide) rfl rfl) rfl ?_
  refine vl_v (q_load 0 Try.underlying3 rfl rfl rfl (partC_at (by simp))) rfl ?_
  refine vl_v (q_false (q_lss_n (q := 0) Try.underlying3 rfl rfl) (by simp)) rfl ?_
  refine vl_nil ?_
  refine (th_n ?_)
  refine VC_no (rfl) ?_
  refine VC_skip ?_
  refine (th_n ?_)
  refine VC_seq ?_
  refine VC_drawV 6 [[], [0], [], [], [3], [2, 4], [1, 5]] [[], [0], [], [], [3], [2, 3, 4], [0, 1, 2, 3, 4, 5]] rfl (by kernel_rfl) ?_
  refine qv_v (q_fldA fo74_0 (by decide) rfl rfl) ?_
  refine qv_v (q_slcA Try.underlying23 sz5 rfl rfl rfl rfl (.inl rfl) (by omega) (by omega) (by omega) (by omega) (by (try simp only [Nat.mul_one, Nat.zero_add, Nat.zero_mul, Nat.mul_zero, Nat.add_zero]) <;> rfl)) ?_
  refine qv_v (q_move rfl) ?_
  refine qv_v (q_fldA fo74_1 (by decide) rfl rfl) ?_
  refine qv_v (q_load 0 Try.underlying3 rfl rfl rfl (partC_at (by simp))) ?_
  refine qv_v (q_as (v := .slice (PBYtkadnmoephkklaa.adv C n cc 1) 32 (cc - n)) (q_slcS (l := n) (h := c.length) (m := cc) Try.underlying24 sz5 rfl ⟨_, rfl⟩ rfl rfl (.inl rfl) (by omega) (by omega) (by omega)) (by rw [show c.length - n = 32 by omega])) ?_
  refine qv_end ?_
  refine VL.keep (Sub.cons (s := 0) rfl (Sub.cons (s := 2) rfl (Sub.cons (s := 3) rfl (Sub.cons (s := 4) rfl (Sub.cons (s := 11) rfl (Sub.cons (s := 14) rfl (Sub.cons (s := 18) rfl (Sub.nil _)))))))) ?_
  refine l_copy 0 rfl rfl rfl Try.underlying24 Try.underlying24 sz5 (fun w1 H1 => by have h := slRest (hC.keep H1.kept) n cc (by omega); rw [ht] at h; exact h) (by first | omega | with_reducible assumption | (simp only [zb, zu, zw, zi, za]; omega) | (simp only [zs, zr, zm, za, zb, zu, zw, zi, zt, zd, zc, zn, *] <;> first | done | omega) | rfl) (by first | (with_reducible first | exact bys_one _ | exact u32s_one _ | exact u64s_one _ | exact i64s_one _ | exact n64s_one _ | assumption) | exact bys_one _ | exact u32s_one _ | exact u64s_one _ | exact i64s_one _ | exact one_all rfl | (refine app_one ?_ ?_ <;> first | exact bys_one _ | (simp; done))) (by first | omega | with_reducible assumption | (simp only [zb, zu, zw, zi, za]; omega) | (simp only [zs, zr, zm, za, zb, zu, zw, zi, zt, zd, zc, zn, *] <;> first | done | omega) | rfl) rfl ?_
  simp only [List.set_cons_zero, List.set_cons_succ]
  rw [partC_splice (by simp) lt]
  refine vl_nil ?_
  refine (qn_n (th_n ?_))
  refine VC_seq ?_
  refine VC_region ?_
  first | (refine vl_v (q_loads 0 Try.underlying74 rfl rfl rfl sz74 (by first | omega | with_reducible assumption | (simp only [zb, zu, zw, zi, za]; omega) | (simp only [zs, zr, zm, za, zb, zu, zw, zi, zt, zd, zc, zn, *] <;> first | done | omega) | rfl)) rfl ?_) | (refine vl_v (q_loadsAt 0 Try.underlying74 rfl rfl rfl sz74 (by rfl) (by first | omega | with_reducible assumption | (simp only [zb, zu, zw, zi, za]; omega) | (simp only [zs, zr, zm, za, zb, zu, zw, zi, zt, zd, zc, zn, *] <;> first | done | omega) | rfl)) rfl ?_)
  refine l_storeA 1 rfl rfl rfl sz74 (by first | omega | with_reducible assumption | (simp only [zb, zu, zw, zi, za]; omega) | (simp only [zs, zr, zm, za, zb, zu, zw, zi, zt, zd, zc, zn, *] <;> first | done | omega) | rfl) (by first | (with_reducible first | exact bys_one _ | exact u32s_one _ | exact u64s_one _ | exact i64s_one _ | exact n64s_one _ | assumption) | exact bys_one _ | exact u32s_one _ | exact u64s_one _ | exact i64s_one _ | exact one_all rfl | (refine app_one ?_ ?_ <;> first | exact bys_one _ | (simp; done))) (by first | omega | with_reducible assumption | (simp only [zb, zu, zw, zi, za]; omega) | (simp only [zs, zr, zm, za, zb, zu, zw, zi, zt, zd, zc, zn, *] <;> first | done | omega) | rfl) ?_
  simp only [List.set_cons_zero, List.set_cons_succ]
  refine vl_v (q_assign rfl) rfl ?_
  refine vl_nil ?_
  refine (th_n ?_)
  refine VC_ret ?_
  refine ⟨_, resC2 1 rfl Try.underlying74 rfl rfl rfl sz74 (by first | omega | with_reducible assumption | (simp only [zb, zu, zw, zi, za]; omega) | (simp only [zs, zr, zm, za, zb, zu, zw, zi, zt, zd, zc, zn, *] <;> first | done | omega) | rfl) rfl, ?_⟩
  exact rfl
def part0 : List Value := bys (List.replicate 32 0) ++ [.int .i64 0]
set_option maxHeartbeats 1000000 in
theorem part_bad (l lc cc : Nat) (C : Option Addr) (hl : lc < 32) (w : World) :
    Calls Try.prog 47 #[.slice C lc cc] w fun e w' => e = .returned (.tuple #[.agg part0.toArray, .bool false]) ∧ Kept [] w w' := by
  refine enter (n := 21) (R := fun e L => e = .returned (.tuple #[.agg part0.toArray, .bool false])) [.slice C lc cc] Try.func47 rfl rfl rfl (St.refl w) ?_ (fun e w' L' h H => ⟨h, H.kept⟩)
  refine VC_seq ?_
  refine VC_region ?_
  refine l_allocA zr74 rfl ?_
  intro b2
  refine vl_v (q_assign rfl) rfl ?_
  refine vl_nil ?_
  refine (th_n ?_)
  refine VC_seq ?_
  refine VC_region ?_
  refine l_allocA zr74 rfl ?_
  intro b4
  refine vl_nil ?_
  refine (th_n ?_)
  refine VC_seq ?_
  refine VC_region ?_
  refine vl_v (q_move rfl) rfl ?_
  refine vl_v (q_lenS Try.underlying24 rfl) rfl ?_
  refine vl_v (q_sub_i rfl rfl (by omega) (by omega)) rfl ?_
  refine vl_v (q_fldA fo74_1 (by decide) rfl rfl) rfl ?_
  first | (refine l_stI 0 rfl rfl rfl sz3 (by first | omega | with_reducible assumption | (simp only [zb, zu, zw, zi, za]; omega) | (simp only [zs, zr, zm, za, zb, zu, zw, zi, zt, zd, zc, zn, *] <;> first | done | omega) | rfl) ?_) | (refine l_store1 0 rfl rfl rfl sz3 rfl (by first | decide | simp) ?_)
  simp only [List.set_cons_zero, List.set_cons_succ]
  refine vl_nil ?_
  refine (th_n ?_)
  refine VC_seq ?_
  refine VC_seq ?_
  rw [show (bys (List.replicate 32 0) ++ [Value.int .i64 0]).set 32 (vI ((lc : Int) - 32)) = bys (List.replicate 32 0) ++ [vI ((lc : Int) - 32)] from rfl]
  refine VC_region ?_
  refine vl_v (q_fldA fo74_1 (by decide) rfl rfl) rfl ?_
  refine vl_v (q_load 0 Try.underlying3 rfl rfl rfl (v := vI ((lc : Int) - 32)) rfl) rfl ?_
  refine vl_v (q_as (v := .bool true) (q_lss_k (q := 0) Try.underlying3 rfl rfl) (by simp; omega)) rfl ?_
  refine vl_nil ?_
  refine (th_n ?_)
  refine VC_yes (rfl) ?_
  refine VC_seq ?_
  refine VC_region ?_
  refine vl_v (q_build (c' := part0) rfl (by kernel_rfl)) rfl ?_
  refine l_storeA 1 rfl rfl rfl sz74 (by first | omega | with_reducible assumption | (simp only [zb, zu, zw, zi, za]; omega) | (simp only [zs, zr, zm, za, zb, zu, zw, zi, zt, zd, zc, zn, *] <;> first | done | omega) | rfl) (by first | (with_reducible first | exact bys_one _ | exact u32s_one _ | exact u64s_one _ | exact i64s_one _ | exact n64s_one _ | assumption) | exact bys_one _ | exact u32s_one _ | exact u64s_one _ | exact i64s_one _ | exact one_all rfl | (refine app_one ?_ ?_ <;> first | exact bys_one _ | (simp; done))) (by first | omega | with_reducible assumption | (simp only [zb, zu, zw, zi, za]; omega) | (simp only [zs, zr, zm, za, zb, zu, zw, zi, zt, zd, zc, zn, *] <;> first | done | omega) | rfl) ?_
  simp only [List.set_cons_zero, List.set_cons_succ]
  refine vl_v (q_assign rfl) rfl ?_
  refine vl_nil ?_
  refine (th_n ?_)
  refine VC_ret ?_
  refine (th_r ?_)
  refine ⟨_, resC2 1 rfl Try.underlying74 rfl rfl rfl sz74 (by first | omega | with_reducible assumption | (simp only [zb, zu, zw, zi, za]; omega) | (simp only [zs, zr, zm, za, zb, zu, zw, zi, zt, zd, zc, zn, *] <;> first | done | omega) | rfl) rfl, ?_⟩
  exact rfl
set_option maxHeartbeats 1000000 in
theorem tag5_good (c t : List UInt8) (n lc cc : Nat) (C : Option Addr) (hn : c.length = n + 32) (ht : c.drop n = t) (hlc : lc = c.length) (hcc : lc ≤ cc) (hl : c.length ≤ 100000) (w : World) (hC : SlAt w C (bys c)) :
    Calls Try.prog 36 #[.slice C lc cc] w fun e w' => e = .returned (.tuple #[.agg (bys t).toArray, .int .i64 0]) ∧ Kept [] w w' := by
  have lt : t.length = 32 := by rw [← ht, List.length_drop]; omega
  have l33 := partC_length (n := n) lt
  have o33 := partC_one t n
  refine enter (n := 16) (R := fun e L => e = .returned (.tuple #[.agg (bys t).toArray, .int .i64 0])) [.slice C lc cc] Try.func36 rfl rfl rfl (St.refl w) ?_ (fun e w' L' h H => ⟨h, H.kept⟩)
  refine VC_seq ?_
  refine VC_region ?_
  refine l_allocA zr23 rfl ?_
  intro b2
  refine vl_v (q_assign rfl) rfl ?_
  refine vl_nil ?_
  refine (th_n ?_)
  refine VC_seq ?_
  refine VC_region ?_
  refine vl_v (q_move rfl) rfl ?_
  refine vl_v (q_callV Try.func47 rfl rfl rfl (fun w1 H1 => part_good c t n lc cc C hn ht hlc hcc hl w1 (hC.keep H1.kept))) rfl ?_
  refine vl_v (q_move rfl) rfl ?_
  refine vl_v (q_ext rfl rfl) rfl ?_
  refine vl_v (q_ext rfl rfl) rfl ?_
  refine l_allocA zr74 rfl ?_
  intro b4
  refine l_storeA 0 rfl rfl rfl sz74 (by first | omega | with_reducible assumption | (simp only [zb, zu, zw, zi, za]; omega) | (simp only [zs, zr, zm, za, zb, zu, zw, zi, zt, zd, zc, zn, *] <;> first | done | omega) | rfl) (by first | (with_reducible first | exact bys_one _ | exact u32s_one _ | exact u64s_one _ | exact i64s_one _ | exact n64s_one _ | assumption) | exact bys_one _ | exact u32s_one _ | exact u64s_one _ | exact i64s_one _ | exact one_all rfl | (refine app_one ?_ ?_ <;> first | exact bys_one _ | (simp; done))) (by first | omega | with_reducible assumption | (simp only [zb, zu, zw, zi, za]; omega) | (simp only [zs, zr, zm, za, zb, zu, zw, zi, zt, zd, zc, zn, *] <;> first | done | omega) | rfl) ?_
  simp only [List.set_cons_zero, List.set_cons_succ]
  refine vl_v (q_assign rfl) rfl ?_
  refine vl_nil ?_
  refine (th_n ?_)
  refine VC_seq ?_
  refine VC_seq ?_
  refine VC_region ?_
  refine vl_v (q_move rfl) rfl ?_
  refine vl_v (q_not rfl) rfl ?_
  refine vl_nil ?_
  refine (th_n ?_)
  refine VC_no (rfl) ?_
  refine VC_skip ?_
  refine (th_n ?_)
  refine VC_seq ?_
  refine VC_region ?_
  refine vl_v (q_fldA fo74_0 (by decide) rfl rfl) rfl ?_
  refine vl_v (q_loadsAt (vs := bys t) 0 Try.underlying23 rfl rfl rfl sz23 (partC_tag lt) (by rw [bys_length, lt])) rfl ?_
  refine l_storeA 1 rfl rfl rfl sz23 (by first | omega | with_reducible assumption | (simp only [zb, zu, zw, zi, za]; omega) | (simp only [zs, zr, zm, za, zb, zu, zw, zi, zt, zd, zc, zn, *] <;> first | done | omega) | rfl) (by first | (with_reducible first | exact bys_one _ | exact u32s_one _ | exact u64s_one _ | exact i64s_one _ | exact n64s_one _ | assumption) | exact bys_one _ | exact u32s_one _ | exact u64s_one _ | exact i64s_one _ | exact one_all rfl | (refine app_one ?_ ?_ <;> first | exact bys_one _ | (simp; done))) (by first | omega | with_reducible assumption | (simp only [zb, zu, zw, zi, za]; omega) | (simp only [zs, zr, zm, za, zb, zu, zw, zi, zt, zd, zc, zn, *] <;> first | done | omega) | rfl) ?_
  simp only [List.set_cons_zero, List.set_cons_succ]
  refine vl_v (q_assign rfl) rfl ?_
  refine vl_nil ?_
  refine (th_n ?_)
  refine VC_ret ?_
  refine ⟨_, resC2 1 rfl Try.underlying23 rfl rfl rfl sz23 (by first | omega | with_reducible assumption | (simp only [zb, zu, zw, zi, za]; omega) | (simp only [zs, zr, zm, za, zb, zu, zw, zi, zt, zd, zc, zn, *] <;> first | done | omega) | rfl) rfl, ?_⟩
  exact rfl
set_option maxHeartbeats 1000000 in
theorem tag5_bad (lc cc : Nat) (C : Option Addr) (hl : lc < 32) (w : World) :
    Calls Try.prog 36 #[.slice C lc cc] w fun e w' => e = .returned (.tuple #[.agg (bys (List.replicate 32 0)).toArray, .int .i64 3]) ∧ Kept [] w w' := by
  have l0 : part0.length = 33 := rfl
  have o0 : ∀ v ∈ part0, v.oneCell' = true := one_all rfl
  refine enter (n := 16) (R := fun e L => e = .returned (.tuple #[.agg (bys (List.replicate 32 0)).toArray, .int .i64 3])) [.slice C lc cc] Try.func36 rfl rfl rfl (St.refl w) ?_ (fun e w' L' h H => ⟨h, H.kept⟩)
  refine VC_seq ?_
  refine VC_region ?_
  refine l_allocA zr23 rfl ?_
  intro b2
  refine vl_v (q_assign rfl) rfl ?_
  refine vl_nil ?_
  refine (th_n ?_)
  refine VC_seq ?_
  refine VC_region ?_
  refine vl_v (q_move rfl) rfl ?_
  refine vl_v (q_callV Try.func47 rfl rfl rfl (fun w1 H1 => part_bad 0 lc cc C hl w1)) rfl ?_
  refine vl_v (q_move rfl) rfl ?_
  refine vl_v (q_ext rfl rfl) rfl ?_
  refine vl_v (q_ext rfl rfl) rfl ?_
  refine l_allocA zr74 rfl ?_
  intro b4
  refine l_storeA 0 rfl rfl rfl sz74 (by first | omega | with_reducible assumption | (simp only [zb, zu, zw, zi, za]; omega) | (simp only [zs, zr, zm, za, zb, zu, zw, zi, zt, zd, zc, zn, *] <;> first | done | omega) | rfl) (by first | (with_reducible first | exact bys_one _ | exact u32s_one _ | exact u64s_one _ | exact i64s_one _ | exact n64s_one _ | assumption) | exact bys_one _ | exact u32s_one _ | exact u64s_one _ | exact i64s_one _ | exact one_all rfl | (refine app_one ?_ ?_ <;> first | exact bys_one _ | (simp; done))) (by first | omega | with_reducible assumption | (simp only [zb, zu, zw, zi, za]; omega) | (simp only [zs, zr, zm, za, zb, zu, zw, zi, zt, zd, zc, zn, *] <;> first | done | omega) | rfl) ?_
  simp only [List.set_cons_zero, List.set_cons_succ]
  refine vl_v (q_assign rfl) rfl ?_
  refine vl_nil ?_
  refine (th_n ?_)
  refine VC_seq ?_
  refine VC_seq ?_
  refine VC_region ?_
  refine vl_v (q_move rfl) rfl ?_
  refine vl_v (q_not rfl) rfl ?_
  refine vl_nil ?_
  refine (th_n ?_)
  refine VC_yes (rfl) ?_
  refine VC_seq ?_
  refine VC_region ?_
  refine vl_v (q_build (c' := bys (List.replicate 32 0)) rfl (by kernel_rfl)) rfl ?_
  refine l_storeA 1 rfl rfl rfl sz23 (by first | omega | with_reducible assumption | (simp only [zb, zu, zw, zi, za]; omega) | (simp only [zs, zr, zm, za, zb, zu, zw, zi, zt, zd, zc, zn, *] <;> first | done | omega) | rfl) (by first | (with_reducible first | exact bys_one _ | exact u32s_one _ | exact u64s_one _ | exact i64s_one _ | exact n64s_one _ | assumption) | exact bys_one _ | exact u32s_one _ | exact u64s_one _ | exact i64s_one _ | exact one_all rfl | (refine app_one ?_ ?_ <;> first | exact bys_one _ | (simp; done))) (by first | omega | with_reducible assumption | (simp only [zb, zu, zw, zi, za]; omega) | (simp only [zs, zr, zm, za, zb, zu, zw, zi, zt, zd, zc, zn, *] <;> first | done | omega) | rfl) ?_
  simp only [List.set_cons_zero, List.set_cons_succ]
  refine vl_v (q_assign rfl) rfl ?_
  refine vl_nil ?_
  refine (th_n ?_)
  refine VC_ret ?_
  refine (th_r ?_)
  refine ⟨_, resC2 1 rfl Try.underlying23 rfl rfl rfl sz23 (by first | omega | with_reducible assumption | (simp only [zb, zu, zw, zi, za]; omega) | (simp only [zs, zr, zm, za, zb, zu, zw, zi, zt, zd, zc, zn, *] <;> first | done | omega) | rfl) rfl, ?_⟩
  exact rfl
theorem laidK : laidOutB Try.prog = true := by kernel_rfl
theorem flat33 : Flat Try.prog 74 (List.replicate 32 .u8 ++ [.i64]) :=
  flat_of (m := 3) laidK (by omega) (of_decide_eq_true (by kernel_rfl)) (by kernel_rfl) (by kernel_rfl) (by kernel_rfl) (by kernel_rfl) (by kernel_rfl) (by kernel_rfl)
end Go.Proofs.Ytkadnmoephkklaa
namespace Go.Proofs.Ytkadnmoephkklaa
open Go.RowKit Go.PBYtkadnmoephkklaa
set_option linter.unusedVariables false
set_option linter.unusedSimpArgs false
set_option maxRecDepth 10000

theorem fits_part {t : List UInt8} {n : Nat} (h : t.length = 32) (hn : n ≤ 1000000) : Fits (partC t n) (List.replicate 32 .u8 ++ [.i64]) := by
  refine (fits_bys' h).append (fits_int ?_)
  simp only [Lit.wf, Bool.and_eq_true, decide_eq_true_eq]
  have h1 : IntKind.i64.min = -9223372036854775808 := rfl
  have h2 : IntKind.i64.max = 9223372036854775807 := rfl
  rw [h1, h2]
  omega
theorem partC_inj {t u : List UInt8} {n : Nat} (h : partC t n = partC u n) : t = u := bys_inj' (List.append_cancel_right h)
set_option maxHeartbeats 1000000 in
theorem open5_short (k : List UInt8) (lb cb lc cc : Nat) (B C : Option Addr) (hk : k.length = 32) (hl : lc < 32) (w : World) :
    Calls Try.prog 35 #[.agg (bys k).toArray, .slice B lb cb, .slice C lc cc] w fun e w' => e = .returned (.tuple #[.slice none 0 0, .int .i64 3]) ∧ Kept [] w w' := by
  have l0 : part0.length = 33 := rfl
  have o0 : ∀ v ∈ part0, v.oneCell' = true := one_all rfl
  refine enter (n := 48) (R := fun e L => e = .returned (.tuple #[.slice none 0 0, .int .i64 3])) [.agg (bys k).toArray, .slice B lb cb, .slice C lc cc] Try.func35 rfl rfl rfl (St.refl w) ?_ (fun e w' L' h H => ⟨h, H.kept⟩)
  refine VC_seq ?_
  refine VC_region ?_
  refine l_boxA rfl rfl ?_
  intro b3
  refine vl_v (q_assign rfl) rfl ?_
  refine vl_v (q_assign rfl) rfl ?_
  refine vl_nil ?_
  refine (th_n ?_)
  refine VC_seq ?_
  refine VC_region ?_
  refine vl_v (q_move rfl) rfl ?_
  refine vl_v (q_callV Try.func47 rfl rfl rfl (fun w1 H1 => part_bad 0 lc cc C hl w1)) rfl ?_
  refine vl_v (q_move rfl) rfl ?_
  refine vl_v (q_ext rfl rfl) rfl ?_
  refine vl_v (q_ext rfl rfl) rfl ?_
  refine l_allocA zr74 rfl ?_
  intro b8
  refine l_storeA 0 rfl rfl rfl sz74 (by first | omega | with_reducible assumption | (simp only [zb, zu, zw, zi, za]; omega) | (simp only [zs, zr, zm, za, zb, zu, zw, zi, zt, zd, zc, zn, *] <;> first | done | omega) | rfl) (by first | (with_reducible first | exact bys_one _ | exact u32s_one _ | exact u64s_one _ | exact i64s_one _ | exact n64s_one _ | assumption) | exact bys_one _ | exact u32s_one _ | exact u64s_one _ | exact i64s_one _ | exact one_all rfl | (refine app_one ?_ ?_ <;> first | exact bys_one _ | (simp; done))) (by first | omega | with_reducible assumption | (simp only [zb, zu, zw, zi, za]; omega) | (simp only [zs, zr, zm, za, zb, zu, zw, zi, zt, zd, zc, zn, *] <;> first | done | omega) | rfl) ?_
  simp only [List.set_cons_zero, List.set_cons_succ]
  refine vl_v (q_assign rfl) rfl ?_
  refine vl_nil ?_
  refine (th_n ?_)
  refine VC_seq ?_
  refine VC_seq ?_
  refine VC_region ?_
  refine vl_v (q_move rfl) rfl ?_
  refine vl_v (q_not rfl) rfl ?_
  refine vl_nil ?_
  refine (th_n ?_)
  refine VC_yes (rfl) ?_
  refine VC_seq ?_
  refine VC_region ?_
  refine vl_v (q_assign rfl) rfl ?_
  refine vl_v (q_assign rfl) rfl ?_
  refine vl_nil ?_
  refine (th_n ?_)
  refine VC_ret ?_
  refine (th_r ?_)
  refine ⟨_, res2 rfl rfl rfl, ?_⟩
  exact rfl
theorem same5_calls (l m : List UInt8) (A B : Option Addr) (a c b d : Nat) (hl : a = l.length) (hm : b = m.length) (w : World) (hA : SlAt w A (bys l)) (hB : SlAt w B (bys m)) (hc : a ≤ c) (hd : b ≤ d) (h1 : l.length ≤ 140737488355328 := by omega) (h2 : m.length ≤ 140737488355328 := by omega) :
    Calls Try.prog 48 #[.slice A a c, .slice B b d] w fun e w' => e = .returned (.bool (decide (l = m))) ∧ Kept [] w w' := by
  subst hl
  subst hm
  exact same_calls l m A B c d w hA hB hc hd h1 h2
set_option maxHeartbeats 1000000 in
theorem open5_good (k b c t a g u m : List UInt8) (n : Nat) (ha : keyP k tTurn = a) (hg : keyP k tTag = g) (hu : turnB a n12 0 (c.take n) = u) (hm : macB g (joinB [k, b, c.take n]) = m) (hk : k.length = 32) (B C : Option Addr) (lb lc cb cc : Nat) (hn : c.length = n + 32) (ht : c.drop n = t) (hlb : lb = b.length) (hlc : lc = c.length) (hb : b.length ≤ 10000) (hc : c.length ≤ 10000) (hmt : m = t) (w : World) (hB : SlAt w B (bys b)) (hC : SlAt w C (bys c)) (hcb : lb ≤ cb) (hcc : lc ≤ cc) :
    Calls Try.prog 35 #[.agg (bys k).toArray, .slice B lb cb, .slice C lc cc] w fun e w' => ∃ v, e = .returned (.tuple #[v, .int .i64 0]) ∧ St [] w [.row 5 1 v n (bys u)] w' := by
  have la : a.length = 32 := by rw [← ha]; exact keyP_length ..
  have lg : g.length = 32 := by rw [← hg]; exact keyP_length ..
  have lt : t.length = 32 := by rw [← ht, List.length_drop]; omega
  have lm : m.length = 32 := by rw [← hm]; exact macB_length ..
  have lcn : (c.take n).length = n := by rw [List.length_take]; omega
  have l33 := partC_length (n := n) lt
  have o33 := partC_one t n
  have l34 := partC_length (n := n) lm
  have o34 := partC_one m n
  obtain ⟨x, ebx⟩ : ∃ x, bys (a ++ g ++ k) = x := ⟨_, rfl⟩
  have lx : x.length = 96 := by rw [← ebx, bys_length, List.length_append, List.length_append]; omega
  have ox : ∀ v ∈ x, v.oneCell' = true := by rw [← ebx]; exact bys_one _
  refine enter (n := 48) (R := fun e L => ∃ v, e = .returned (.tuple #[v, .int .i64 0]) ∧ ∀ w', St [] w L w' → St [] w [.row 5 1 v n (bys u)] w') [.agg (bys k).toArray, .slice B lb cb, .slice C lc cc] Try.func35 rfl rfl rfl (St.refl w) ?_ (fun e w' L' h H => by obtain ⟨v, h1, h2⟩ := h; exact ⟨v, h1, h2 w' H⟩)
  refine VC_seq ?_
  refine VC_region ?_
  refine l_boxA rfl rfl ?_
  intro b3
  refine vl_v (q_assign rfl) rfl ?_
  refine vl_v (q_assign rfl) rfl ?_
  refine vl_nil ?_
  refine (th_n ?_)
  refine VC_seq ?_
  refine VC_region ?_
  refine vl_v (q_move rfl) rfl ?_
  refine vl_v (q_callV Try.func47 rfl rfl rfl (fun w1 H1 => part_good c t n lc cc C hn ht hlc hcc (by omega) w1 (hC.keep H1.kept))) rfl ?_
  refine vl_v (q_move rfl) rfl ?_
  refine vl_v (q_ext rfl rfl) rfl ?_
  refine vl_v (q_ext rfl rfl) rfl ?_
  refine l_allocA zr74 rfl ?_
  intro b8
  refine l_storeA 0 rfl rfl rfl sz74 (by first | omega | with_reducible assumption | (simp only [zb, zu, zw, zi, za]; omega) | (simp only [zs, zr, zm, za, zb, zu, zw, zi, zt, zd, zc, zn, *] <;> first | done | omega) | rfl) (by first | (with_reducible first | exact bys_one _ | exact u32s_one _ | exact u64s_one _ | exact i64s_one _ | exact n64s_one _ | assumption) | exact bys_one _ | exact u32s_one _ | exact u64s_one _ | exact i64s_one _ | exact one_all rfl | (refine app_one ?_ ?_ <;> first | exact bys_one _ | (simp; done))) (by first | omega | with_reducible assumption | (simp only [zb, zu, zw, zi, za]; omega) | (simp only [zs, zr, zm, za, zb, zu, zw, zi, zt, zd, zc, zn, *] <;> first | done | omega) | rfl) ?_
  simp only [List.set_cons_zero, List.set_cons_succ]
  refine vl_v (q_assign rfl) rfl ?_
  refine vl_nil ?_
  refine (th_n ?_)
  refine VC_seq ?_
  refine VC_seq ?_
  refine VC_region ?_
  refine vl_v (q_move rfl) rfl ?_
  refine vl_v (q_not rfl) rfl ?_
  refine vl_nil ?_
  refine (th_n ?_)
  refine VC_no (rfl) ?_
  refine VC_skip ?_
  refine (th_n ?_)
  refine VC_seq ?_
  refine VC_region ?_
  first | (refine vl_v (q_loads 1 Try.underlying23 rfl rfl rfl sz23 (by first | omega | with_reducible assumption | (simp only [zb, zu, zw, zi, za]; omega) | (simp only [zs, zr, zm, za, zb, zu, zw, zi, zt, zd, zc, zn, *] <;> first | done | omega) | rfl)) rfl ?_) | (refine vl_v (q_loadsAt 1 Try.underlying23 rfl rfl rfl sz23 (by rfl) (by first | omega | with_reducible assumption | (simp only [zb, zu, zw, zi, za]; omega) | (simp only [zs, zr, zm, za, zb, zu, zw, zi, zt, zd, zc, zn, *] <;> first | done | omega) | rfl)) rfl ?_)
  refine vl_v (q_callV Try.func44 rfl rfl rfl (fun w1 H1 => ebx ▸ of5_calls k a g ha hg hk w1)) rfl ?_
  refine l_allocA zr69 rfl ?_
  intro b10
  refine l_storeA 0 rfl rfl rfl sz69 (by first | omega | with_reducible assumption | (simp only [zb, zu, zw, zi, za]; omega) | (simp only [zs, zr, zm, za, zb, zu, zw, zi, zt, zd, zc, zn, *] <;> first | done | omega) | rfl) (by first | (with_reducible first | exact bys_one _ | exact u32s_one _ | exact u64s_one _ | exact i64s_one _ | exact n64s_one _ | assumption) | exact bys_one _ | exact u32s_one _ | exact u64s_one _ | exact i64s_one _ | exact one_all rfl | (refine app_one ?_ ?_ <;> first | exact bys_one _ | (simp; done))) (by first | omega | with_reducible assumption | (simp only [zb, zu, zw, zi, za]; omega) | (simp only [zs, zr, zm, za, zb, zu, zw, zi, zt, zd, zc, zn, *] <;> first | done | omega) | rfl) ?_
  simp only [List.set_cons_zero, List.set_cons_succ]
  refine vl_nil ?_
  refine (th_n ?_)
  refine VC_seq ?_
  refine VC_drawM 11 [[], [], [], [], [3], [2, 4], [0, 1, 5], [], [7], [6, 8], [], [10, 9, 6, 0, 1, 2, 3, 4, 5, 7, 8]] [[], [], [], [], [3], [2, 3, 4], [0, 1, 2, 3, 4, 5], [], [7], [0, 1, 2, 3, 4, 5, 6, 7, 8], [], [0, 1, 2, 3, 4, 5, 6, 7, 8, 9, 10]] rfl (by kernel_rfl) ?_
  first | (refine qm_v (fun xs hx => q_loads 0 Try.underlying69 rfl rfl rfl sz69 (by first | omega | with_reducible assumption | (simp only [zb, zu, zw, zi, za]; omega) | (simp only [zs, zr, zm, za, zb, zu, zw, zi, zt, zd, zc, zn, *] <;> first | done | omega) | rfl)) ?_) | (refine qm_v (fun xs hx => q_loadsAt 0 Try.underlying69 rfl rfl rfl sz69 (by rfl) (by first | omega | with_reducible assumption | (simp only [zb, zu, zw, zi, za]; omega) | (simp only [zs, zr, zm, za, zb, zu, zw, zi, zt, zd, zc, zn, *] <;> first | done | omega) | rfl)) ?_)
  refine qm_v (fun xs hx => q_move rfl) ?_
  refine qm_v (fun xs hx => q_move rfl) ?_
  refine qm_v (fun xs hx => q_fldA fo74_1 (by decide) rfl rfl) ?_
  refine qm_v (fun xs hx => q_load 1 Try.underlying3 rfl rfl rfl (partC_at lt)) ?_
  refine qm_v (fun xs hx => q_slcS0 (h := n) (m := cc) Try.underlying24 sz5 rfl ⟨_, rfl⟩ rfl (.inl rfl) (by omega) (by omega)) ?_
  refine qm_v (fun xs hx => q_callV Try.func46 rfl rfl rfl (fun w1 H1 => by have h := mark5_calls a g k b (c.take n) _ m rfl hm la lg hk B C lb n cb cc hlb lcn.symm (by omega) (by omega) w1 (Reads.old hB w1 H1) ((Reads.old hC).take n (bys_take _ _) w1 H1) hcb (by omega); rw [ebx] at h; exact h)) ?_
  refine qm_v (fun xs hx => q_fldA fo74_1 (by decide) rfl rfl) ?_
  refine qm_v (fun xs hx => q_load 1 Try.underlying3 rfl rfl rfl (partC_at lt)) ?_
  refine qm_v (fun xs hx => q_buildS (tot := 33) (sizes := [32, 1]) (c' := partC m n) (by kernel_rfl) rfl rfl rfl rfl (by simp only [List.map_cons, List.map_nil, cellsL, Value.cells, bys_length, lm]; rfl) (by simp only [flatV, cellsL, Value.cells, List.map_cons, List.map_nil, List.flatten_cons, List.flatten_nil, List.append_nil, partC])) ?_
  refine qm_a (fun xs hx => q_alloc zr74 rfl) ?_
  refine qm_end ?_
  intro xs hx
  obtain ⟨⟨b11, e11⟩, _⟩ := hx
  simp only [e11]
  simp only [resT, nRow, nBlk, nRowT, tupAt_0, List.append_assoc, List.nil_append, List.append_nil, List.cons_append, List.singleton_append, e11]
  refine VL.keep (Sub.cons (s := 0) rfl (Sub.cons (s := 1) rfl (Sub.cons (s := 2) rfl (Sub.cons (s := 3) rfl (Sub.cons (s := 6) rfl (Sub.cons (s := 7) rfl (Sub.cons (s := 8) rfl (Sub.cons (s := 9) rfl (Sub.cons (s := 18) rfl (Sub.cons (s := 10) rfl (Sub.cons (s := 30) rfl (Sub.cons (s := 11) rfl (Sub.nil _))))))))))))) ?_
  refine l_storeA 0 rfl rfl rfl sz74 (by first | omega | with_reducible assumption | (simp only [zb, zu, zw, zi, za]; omega) | (simp only [zs, zr, zm, za, zb, zu, zw, zi, zt, zd, zc, zn, *] <;> first | done | omega) | rfl) (by first | (with_reducible first | exact bys_one _ | exact u32s_one _ | exact u64s_one _ | exact i64s_one _ | exact n64s_one _ | assumption) | exact bys_one _ | exact u32s_one _ | exact u64s_one _ | exact i64s_one _ | exact one_all rfl | (refine app_one ?_ ?_ <;> first | exact bys_one _ | (simp; done))) (by first | omega | with_reducible assumption | (simp only [zb, zu, zw, zi, za]; omega) | (simp only [zs, zr, zm, za, zb, zu, zw, zi, zt, zd, zc, zn, *] <;> first | done | omega) | rfl) ?_
  simp only [List.set_cons_zero, List.set_cons_succ]
  refine vl_nil ?_
  refine (qn_n (th_n ?_))
  refine VC_seq ?_
  refine VC_seq ?_
  refine VC_drawV 8 [[], [], [0, 1], [2], [3], [4, 3], [3], [6, 3], [5, 7, 3], [8, 3], [3, 9]] [[], [], [0, 1], [0, 1, 2], [0, 1, 2, 3], [0, 1, 2, 3, 4], [0, 1, 2, 3], [0, 1, 2, 3, 6], [0, 1, 2, 3, 4, 5, 6, 7], [0, 1, 2, 3, 4, 5, 6, 7, 8], [0, 1, 2, 3, 4, 5, 6, 7, 8, 9]] rfl (by kernel_rfl) ?_
  first | (refine qv_v (q_loads 0 Try.underlying74 rfl rfl rfl sz74 (by first | omega | with_reducible assumption | (simp only [zb, zu, zw, zi, za]; omega) | (simp only [zs, zr, zm, za, zb, zu, zw, zi, zt, zd, zc, zn, *] <;> first | done | omega) | rfl)) ?_) | (refine qv_v (q_loadsAt 0 Try.underlying74 rfl rfl rfl sz74 (by rfl) (by first | omega | with_reducible assumption | (simp only [zb, zu, zw, zi, za]; omega) | (simp only [zs, zr, zm, za, zb, zu, zw, zi, zt, zd, zc, zn, *] <;> first | done | omega) | rfl)) ?_)
  first | (refine qv_v (q_loads 2 Try.underlying74 rfl rfl rfl sz74 (by first | omega | with_reducible assumption | (simp only [zb, zu, zw, zi, za]; omega) | (simp only [zs, zr, zm, za, zb, zu, zw, zi, zt, zd, zc, zn, *] <;> first | done | omega) | rfl)) ?_) | (refine qv_v (q_loadsAt 2 Try.underlying74 rfl rfl rfl sz74 (by rfl) (by first | omega | with_reducible assumption | (simp only [zb, zu, zw, zi, za]; omega) | (simp only [zs, zr, zm, za, zb, zu, zw, zi, zt, zd, zc, zn, *] <;> first | done | omega) | rfl)) ?_)
  refine qv_v (q_as (v := .bool false) (q_neR flat33 rfl rfl (fits_part lm (by omega)) (fits_part lt (by omega)) (r := decide (m = t)) (by rw [decide_eq_true_iff]; exact ⟨fun h => by rw [h], partC_inj⟩)) (by rw [decide_eq_true hmt]; rfl)) ?_
  refine qv_v (q_move rfl) ?_
  refine qv_vg (rfl) (q_fldA fo74_0 (by decide) rfl rfl) ?_
  refine qv_vg (rfl) (q_slcA Try.underlying23 sz5 rfl rfl rfl rfl (.inl rfl) (by omega) (by omega) (by omega) (by omega) (by (try simp only [Nat.mul_one, Nat.zero_add, Nat.zero_mul, Nat.mul_zero, Nat.add_zero]) <;> rfl)) ?_
  refine qv_vg (rfl) (q_fldA fo74_0 (by decide) rfl rfl) ?_
  refine qv_vg (rfl) (q_slcA Try.underlying23 sz5 rfl rfl rfl rfl (.inl rfl) (by omega) (by omega) (by omega) (by omega) (by (try simp only [Nat.mul_one, Nat.zero_add, Nat.zero_mul, Nat.mul_zero, Nat.add_zero]) <;> rfl)) ?_
  refine qv_end ?_
  refine VL.keep (Sub.cons (s := 0) rfl (Sub.cons (s := 1) rfl (Sub.cons (s := 2) rfl (Sub.cons (s := 3) rfl (Sub.cons (s := 6) rfl (Sub.cons (s := 7) rfl (Sub.cons (s := 8) rfl (Sub.cons (s := 9) rfl (Sub.cons (s := 18) rfl (Sub.cons (s := 10) rfl (Sub.cons (s := 11) rfl (Sub.cons (s := 34) rfl (Sub.cons (s := 36) rfl (Sub.cons (s := 38) rfl (Sub.nil _))))))))))))))) ?_
  refine vl_vg rfl (q_as (v := .bool true) (q_callV Try.func48 rfl rfl rfl (fun w1 H1 => same5_calls m t _ _ 32 32 32 32 lm.symm lt.symm w1 (Reads.blkTake 0 0 32 rfl (partC_tag lm) w1 H1) (Reads.blkTake 2 0 32 rfl (partC_tag lt) w1 H1) (by omega) (by omega))) (by rw [decide_eq_true hmt])) rfl ?_
  refine vl_vg rfl (q_not rfl) rfl ?_
  first | (refine vl_v (q_pickT rfl rfl) rfl ?_) | (refine vl_v (q_pickF rfl rfl) rfl ?_)
  refine vl_nil ?_
  refine (qn_n (th_n ?_))
  refine VC_no (rfl) ?_
  refine VC_skip ?_
  refine (th_n ?_)
  refine VC_seq ?_
  refine VC_drawV 5 [[], [], [], [2], [1, 3], [0, 4], [5, 0, 1, 2, 3, 4], [6, 0, 1, 2, 3, 4, 5]] [[], [], [], [2], [1, 2, 3], [0, 1, 2, 3, 4], [0, 1, 2, 3, 4, 5], [0, 1, 2, 3, 4, 5, 6]] rfl (by kernel_rfl) ?_
  first | (refine qv_v (q_loads 1 Try.underlying69 rfl rfl rfl sz69 (by first | omega | with_reducible assumption | (simp only [zb, zu, zw, zi, za]; omega) | (simp only [zs, zr, zm, za, zb, zu, zw, zi, zt, zd, zc, zn, *] <;> first | done | omega) | rfl)) ?_) | (refine qv_v (q_loadsAt 1 Try.underlying69 rfl rfl rfl sz69 (by rfl) (by first | omega | with_reducible assumption | (simp only [zb, zu, zw, zi, za]; omega) | (simp only [zs, zr, zm, za, zb, zu, zw, zi, zt, zd, zc, zn, *] <;> first | done | omega) | rfl)) ?_)
  refine qv_v (q_move rfl) ?_
  refine qv_v (q_fldA fo74_1 (by decide) rfl rfl) ?_
  refine qv_v (q_load 2 Try.underlying3 rfl rfl rfl (partC_at lt)) ?_
  refine qv_v (q_slcS0 (h := n) (m := cc) Try.underlying24 sz5 rfl ⟨_, rfl⟩ rfl (.inl rfl) (by omega) (by omega)) ?_
  refine qv_end ?_
  refine VL.keep (Sub.cons (s := 0) rfl (Sub.cons (s := 1) rfl (Sub.cons (s := 2) rfl (Sub.cons (s := 3) rfl (Sub.cons (s := 6) rfl (Sub.cons (s := 7) rfl (Sub.cons (s := 8) rfl (Sub.cons (s := 9) rfl (Sub.cons (s := 18) rfl (Sub.cons (s := 10) rfl (Sub.cons (s := 11) rfl (Sub.cons (s := 41) rfl (Sub.cons (s := 42) rfl (Sub.cons (s := 46) rfl (Sub.nil _))))))))))))))) ?_
  refine l_callR Try.func45 rfl rfl rfl (fun w1 H1 => by have h := turned5_calls a g k (c.take n) la lg hk C n cc lcn.symm (by omega) w1 ((Reads.old hC).take n (bys_take _ _) w1 H1) (by omega); rw [hu, ebx, lcn] at h; exact h) rfl ?_
  intro A47 c47 hc47 hm47
  refine vl_v (q_assign rfl) rfl ?_
  refine vl_v (q_assign rfl) rfl ?_
  refine vl_nil ?_
  refine (qn_n (th_n ?_))
  refine VC_ret ?_
  refine ⟨_, res2 rfl rfl rfl, ?_⟩
  exact ⟨_, rfl, fun w' H' => St.pick H' (ks := [0]) (by decide) rfl⟩
set_option maxHeartbeats 1000000 in
theorem open5_bad (k b c t a g u m : List UInt8) (n : Nat) (ha : keyP k tTurn = a) (hg : keyP k tTag = g) (hm : macB g (joinB [k, b, c.take n]) = m) (hk : k.length = 32) (B C : Option Addr) (lb lc cb cc : Nat) (hn : c.length = n + 32) (ht : c.drop n = t) (hlb : lb = b.length) (hlc : lc = c.length) (hb : b.length ≤ 10000) (hc : c.length ≤ 10000) (hmt : ¬ m = t) (w : World) (hB : SlAt w B (bys b)) (hC : SlAt w C (bys c)) (hcb : lb ≤ cb) (hcc : lc ≤ cc) :
    Calls Try.prog 35 #[.agg (bys k).toArray, .slice B lb cb, .slice C lc cc] w fun e w' => e = .returned (.tuple #[.slice none 0 0, .int .i64 4]) ∧ Kept [] w w' := by
  have la : a.length = 32 := by rw [← ha]; exact keyP_length ..
  have lg : g.length = 32 := by rw [← hg]; exact keyP_length ..
  have lt : t.length = 32 := by rw [← ht, List.length_drop]; omega
  have lm : m.length = 32 := by rw [← hm]; exact macB_length ..
  have lcn : (c.take n).length = n := by rw [List.length_take]; omega
  have l33 := partC_length (n := n) lt
  have o33 := partC_one t n
  have l34 := partC_length (n := n) lm
  have o34 := partC_one m n
  obtain ⟨x, ebx⟩ : ∃ x, bys (a ++ g ++ k) = x := ⟨_, rfl⟩
  have lx : x.length = 96 := by rw [← ebx, bys_length, List.length_append, List.length_append]; omega
  have ox : ∀ v ∈ x, v.oneCell' = true := by rw [← ebx]; exact bys_one _
  refine enter (n := 48) (R := fun e L => e = .returned (.tuple #[.slice none 0 0, .int .i64 4])) [.agg (bys k).toArray, .slice B lb cb, .slice C lc cc] Try.func35 rfl rfl rfl (St.refl w) ?_ (fun e w' L' h H => ⟨h, H.kept⟩)
  refine VC_seq ?_
  refine VC_region ?_
  refine l_boxA rfl rfl ?_
  intro b3
  refine vl_v (q_assign rfl) rfl ?_
  refine vl_v (q_assign rfl) rfl ?_
  refine vl_nil ?_
  refine (th_n ?_)
  refine VC_seq ?_
  refine VC_region ?_
  refine vl_v (q_move rfl) rfl ?_
  refine vl_v (q_callV Try.func47 rfl rfl rfl (fun w1 H1 => part_good c t n lc cc C hn ht hlc hcc (by omega) w1 (hC.keep H1.kept))) rfl ?_
  refine vl_v (q_move rfl) rfl ?_
  refine vl_v (q_ext rfl rfl) rfl ?_
  refine vl_v (q_ext rfl rfl) rfl ?_
  refine l_allocA zr74 rfl ?_
  intro b8
  refine l_storeA 0 rfl rfl rfl sz74 (by first | omega | with_reducible assumption | (simp only [zb, zu, zw, zi, za]; omega) | (simp only [zs, zr, zm, za, zb, zu, zw, zi, zt, zd, zc, zn, *] <;> first | done | omega) | rfl) (by first | (with_reducible first | exact bys_one _ | exact u32s_one _ | exact u64s_one _ | exact i64s_one _ | exact n64s_one _ | assumption) | exact bys_one _ | exact u32s_one _ | exact u64s_one _ | exact i64s_one _ | exact one_all rfl | (refine app_one ?_ ?_ <;> first | exact bys_one _ | (simp; done))) (by first | omega | with_reducible assumption | (simp only [zb, zu, zw, zi, za]; omega) | (simp only [zs, zr, zm, za, zb, zu, zw, zi, zt, zd, zc, zn, *] <;> first | done | omega) | rfl) ?_
  simp only [List.set_cons_zero, List.set_cons_succ]
  refine vl_v (q_assign rfl) rfl ?_
  refine vl_nil ?_
  refine (th_n ?_)
  refine VC_seq ?_
  refine VC_seq ?_
  refine VC_region ?_
  refine vl_v (q_move rfl) rfl ?_
  refine vl_v (q_not rfl) rfl ?_
  refine vl_nil ?_
  refine (th_n ?_)
  refine VC_no (rfl) ?_
  refine VC_skip ?_
  refine (th_n ?_)
  refine VC_seq ?_
  refine VC_region ?_
  first | (refine vl_v (q_loads 1 Try.underlying23 rfl rfl rfl sz23 (by first | omega | with_reducible assumption | (simp only [zb, zu, zw, zi, za]; omega) | (simp only [zs, zr, zm, za, zb, zu, zw, zi, zt, zd, zc, zn, *] <;> first | done | omega) | rfl)) rfl ?_) | (refine vl_v (q_loadsAt 1 Try.underlying23 rfl rfl rfl sz23 (by rfl) (by first | omega | with_reducible assumption | (simp only [zb, zu, zw, zi, za]; omega) | (simp only [zs, zr, zm, za, zb, zu, zw, zi, zt, zd, zc, zn, *] <;> first | done | omega) | rfl)) rfl ?_)
  refine vl_v (q_callV Try.func44 rfl rfl rfl (fun w1 H1 => ebx ▸ of5_calls k a g ha hg hk w1)) rfl ?_
  refine l_allocA zr69 rfl ?_
  intro b10
  refine l_storeA 0 rfl rfl rfl sz69 (by first | omega | with_reducible assumption | (simp only [zb, zu, zw, zi, za]; omega) | (simp only [zs, zr, zm, za, zb, zu, zw, zi, zt, zd, zc, zn, *] <;> first | done | omega) | rfl) (by first | (with_reducible first | exact bys_one _ | exact u32s_one _ | exact u64s_one _ | exact i64s_one _ | exact n64s_one _ | assumption) | exact bys_one _ | exact u32s_one _ | exact u64s_one _ | exact i64s_one _ | exact one_all rfl | (refine app_one ?_ ?_ <;> first | exact bys_one _ | (simp; done))) (by first | omega | with_reducible assumption | (simp only [zb, zu, zw, zi, za]; omega) | (simp only [zs, zr, zm, za, zb, zu, zw, zi, zt, zd, zc, zn, *] <;> first | done | omega) | rfl) ?_
  simp only [List.set_cons_zero, List.set_cons_succ]
  refine vl_nil ?_
  refine (th_n ?_)
  refine VC_seq ?_
  refine VC_drawM 11 [[], [], [], [], [3], [2, 4], [0, 1, 5], [], [7], [6, 8], [], [10, 9, 6, 0, 1, 2, 3, 4, 5, 7, 8]] [[], [], [], [], [3], [2, 3, 4], [0, 1, 2, 3, 4, 5], [], [7], [0, 1, 2, 3, 4, 5, 6, 7, 8], [], [0, 1, 2, 3, 4, 5, 6, 7, 8, 9, 10]] rfl (by kernel_rfl) ?_
  first | (refine qm_v (fun xs hx => q_loads 0 Try.underlying69 rfl rfl rfl sz69 (by first | omega | with_reducible assumption | (simp only [zb, zu, zw, zi, za]; omega) | (simp only [zs, zr, zm, za, zb, zu, zw, zi, zt, zd, zc, zn, *] <;> first | done | omega) | rfl)) ?_) | (refine qm_v (fun xs hx => q_loadsAt 0 Try.underlying69 rfl rfl rfl sz69 (by rfl) (by first | omega | with_reducible assumption | (simp only [zb, zu, zw, zi, za]; omega) | (simp only [zs, zr, zm, za, zb, zu, zw, zi, zt, zd, zc, zn, *] <;> first | done | omega) | rfl)) ?_)
  refine qm_v (fun xs hx => q_move rfl) ?_
  refine qm_v (fun xs hx => q_move rfl) ?_
  refine qm_v (fun xs hx => q_fldA fo74_1 (by decide) rfl rfl) ?_
  refine qm_v (fun xs hx => q_load 1 Try.underlying3 rfl rfl rfl (partC_at lt)) ?_
  refine qm_v (fun xs hx => q_slcS0 (h := n) (m := cc) Try.underlying24 sz5 rfl ⟨_, rfl⟩ rfl (.inl rfl) (by omega) (by omega)) ?_
  refine qm_v (fun xs hx => q_callV Try.func46 rfl rfl rfl (fun w1 H1 => by have h := mark5_calls a g k b (c.take n) _ m rfl hm la lg hk B C lb n cb cc hlb lcn.symm (by omega) (by omega) w1 (Reads.old hB w1 H1) ((Reads.old hC).take n (bys_take _ _) w1 H1) hcb (by omega); rw [ebx] at h; exact h)) ?_
  refine qm_v (fun xs hx => q_fldA fo74_1 (by decide) rfl rfl) ?_
  refine qm_v (fun xs hx => q_load 1 Try.underlying3 rfl rfl rfl (partC_at lt)) ?_
  refine qm_v (fun xs hx => q_buildS (tot := 33) (sizes := [32, 1]) (c' := partC m n) (by kernel_rfl) rfl rfl rfl rfl (by simp only [List.map_cons, List.map_nil, cellsL, Value.cells, bys_length, lm]; rfl) (by simp only [flatV, cellsL, Value.cells, List.map_cons, List.map_nil, List.flatten_cons, List.flatten_nil, List.append_nil, partC])) ?_
  refine qm_a (fun xs hx => q_alloc zr74 rfl) ?_
  refine qm_end ?_
  intro xs hx
  obtain ⟨⟨b11, e11⟩, _⟩ := hx
  simp only [e11]
  simp only [resT, nRow, nBlk, nRowT, tupAt_0, List.append_assoc, List.nil_append, List.append_nil, List.cons_append, List.singleton_append, e11]
  refine VL.keep (Sub.cons (s := 0) rfl (Sub.cons (s := 1) rfl (Sub.cons (s := 2) rfl (Sub.cons (s := 3) rfl (Sub.cons (s := 6) rfl (Sub.cons (s := 7) rfl (Sub.cons (s := 8) rfl (Sub.cons (s := 9) rfl (Sub.cons (s := 18) rfl (Sub.cons (s := 10) rfl (Sub.cons (s := 30) rfl (Sub.cons (s := 11) rfl (Sub.nil _))))))))))))) ?_
  refine l_storeA 0 rfl rfl rfl sz74 (by first | omega | with_reducible assumption | (simp only [zb, zu, zw, zi, za]; omega) | (simp only [zs, zr, zm, za, zb, zu, zw, zi, zt, zd, zc, zn, *] <;> first | done | omega) | rfl) (by first | (with_reducible first | exact bys_one _ | exact u32s_one _ | exact u64s_one _ | exact i64s_one _ | exact n64s_one _ | assumption) | exact bys_one _ | exact u32s_one _ | exact u64s_one _ | exact i64s_one _ | exact one_all rfl | (refine app_one ?_ ?_ <;> first | exact bys_one _ | (simp; done))) (by first | omega | with_reducible assumption | (simp only [zb, zu, zw, zi, za]; omega) | (simp only [zs, zr, zm, za, zb, zu, zw, zi, zt, zd, zc, zn, *] <;> first | done | omega) | rfl) ?_
  simp only [List.set_cons_zero, List.set_cons_succ]
  refine vl_nil ?_
  refine (qn_n (th_n ?_))
  refine VC_seq ?_
  refine VC_seq ?_
  refine VC_drawV 8 [[], [], [0, 1], [2], [3], [4, 3], [3], [6, 3], [5, 7, 3], [8, 3], [3, 9]] [[], [], [0, 1], [0, 1, 2], [0, 1, 2, 3], [0, 1, 2, 3, 4], [0, 1, 2, 3], [0, 1, 2, 3, 6], [0, 1, 2, 3, 4, 5, 6, 7], [0, 1, 2, 3, 4, 5, 6, 7, 8], [0, 1, 2, 3, 4, 5, 6, 7, 8, 9]] rfl (by kernel_rfl) ?_
  first | (refine qv_v (q_loads 0 Try.underlying74 rfl rfl rfl sz74 (by first | omega | with_reducible assumption | (simp only [zb, zu, zw, zi, za]; omega) | (simp only [zs, zr, zm, za, zb, zu, zw, zi, zt, zd, zc, zn, *] <;> first | done | omega) | rfl)) ?_) | (refine qv_v (q_loadsAt 0 Try.underlying74 rfl rfl rfl sz74 (by rfl) (by first | omega | with_reducible assumption | (simp only [zb, zu, zw, zi, za]; omega) | (simp only [zs, zr, zm, za, zb, zu, zw, zi, zt, zd, zc, zn, *] <;> first | done | omega) | rfl)) ?_)
  first | (refine qv_v (q_loads 2 Try.underlying74 rfl rfl rfl sz74 (by first | omega | with_reducible assumption | (simp only [zb, zu, zw, zi, za]; omega) | (simp only [zs, zr, zm, za, zb, zu, zw, zi, zt, zd, zc, zn, *] <;> first | done | omega) | rfl)) ?_) | (refine qv_v (q_loadsAt 2 Try.underlying74 rfl rfl rfl sz74 (by rfl) (by first | omega | with_reducible assumption | (simp only [zb, zu, zw, zi, za]; omega) | (simp only [zs, zr, zm, za, zb, zu, zw, zi, zt, zd, zc, zn, *] <;> first | done | omega) | rfl)) ?_)
  refine qv_v (q_as (v := .bool true) (q_neR flat33 rfl rfl (fits_part lm (by omega)) (fits_part lt (by omega)) (r := decide (m = t)) (by rw [decide_eq_true_iff]; exact ⟨fun h => by rw [h], partC_inj⟩)) (by rw [decide_eq_false hmt]; rfl)) ?_
  refine qv_v (q_move rfl) ?_
  refine qv_skip rfl ?_
  refine qv_skip rfl ?_
  refine qv_skip rfl ?_
  refine qv_skip rfl ?_
  refine qv_end ?_
  refine VL.keep (Sub.cons (s := 0) rfl (Sub.cons (s := 1) rfl (Sub.cons (s := 2) rfl (Sub.cons (s := 3) rfl (Sub.cons (s := 6) rfl (Sub.cons (s := 7) rfl (Sub.cons (s := 8) rfl (Sub.cons (s := 9) rfl (Sub.cons (s := 18) rfl (Sub.cons (s := 10) rfl (Sub.cons (s := 11) rfl (Sub.cons (s := 34) rfl (Sub.cons (s := 36) rfl (Sub.cons (s := 38) rfl (Sub.nil _))))))))))))))) ?_
  refine vl_skip rfl rfl ?_
  refine vl_skip rfl rfl ?_
  first | (refine vl_v (q_pickT rfl rfl) rfl ?_) | (refine vl_v (q_pickF rfl rfl) rfl ?_)
  refine vl_nil ?_
  refine (qn_n (th_n ?_))
  refine VC_yes (rfl) ?_
  refine VC_seq ?_
  refine VC_region ?_
  refine vl_v (q_assign rfl) rfl ?_
  refine vl_v (q_assign rfl) rfl ?_
  refine vl_nil ?_
  refine (th_n ?_)
  refine VC_ret ?_
  refine (th_r ?_)
  refine ⟨_, res2 rfl rfl rfl, ?_⟩
  exact rfl
end Go.Proofs.Ytkadnmoephkklaa
