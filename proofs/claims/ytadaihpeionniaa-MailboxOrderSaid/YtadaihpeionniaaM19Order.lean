/- What is let go leaves the others in their order, and numbers go on: the statement MailboxOrder. No condition. -/
import Derived.Test.YtadaihpeionniaaRows
import Derived.Test.YtadaihpeionniaaQ19oc
namespace Go.Proofs.Ytadaihpeionniaa
open Go Go.RowKit Go.PBYtadaihpeionniaa
set_option linter.unusedVariables false
set_option linter.unusedSimpArgs false
set_option maxRecDepth 10000

/-- where a turn stands -/
structure OSt where
  i : Nat
  many : Nat
  A : Option Addr
  c : Nat
  ms : List (Mm × Pl)
  G : List Res
  L : List Int
  B : Option Addr
  k : Nat
structure OSt.ok (n : Nat) (x : OSt) : Prop where
  le : x.i ≤ n
  my : x.many ≤ x.i
  ids : (mids x.ms).map Mm.id = x.L
  ok : ∀ m ∈ mids x.ms, Mm.okb m
  l8 : x.ms.length ≤ 8
  ups : Ups (mids x.ms) x.many
  g : Bods x.G x.ms
  hk : x.L.length ≤ x.k
def OPS (b : Nat) (x : OSt) : List Res := BoxR b x.A x.c x.ms x.many ++ (.row 3 1 (.slice x.B x.L.length x.k) x.L.length (i64s x.L) :: x.G)
theorem i64s_get {l : List Int} {j : Nat} {x : Int} (h : l[j]? = some x) : (i64s l)[j]? = some (vI x) := by simp [i64s, h]
theorem mvL (X G B : List Res) (r : Res) : ((X ++ G) ++ (r :: B)).Perm ((r :: X) ++ (B ++ G)) := by
  have h1 : ((X ++ G) ++ (r :: B)).Perm ((r :: B) ++ (X ++ G)) := List.perm_append_comm
  refine h1.trans ?_
  show (r :: (B ++ (X ++ G))).Perm (r :: (X ++ (B ++ G)))
  exact List.Perm.cons r (List.perm_append_comm_assoc _ _ _)
theorem dropO {S : List Nat} {w0 w : World} {a b c d : Res} {B G : List Res} (H : St S w0 (a :: b :: c :: d :: (B ++ G)) w) : St S w0 (b :: c :: d :: G) w :=
  H.sub (List.Sublist.cons _ (List.Sublist.cons_cons _ (List.Sublist.cons_cons _ (List.Sublist.cons_cons _ (List.sublist_append_right B G)))))
set_option maxHeartbeats 16000000 in
theorem morder_all (w : World) (l : List Bool) (A : Option Addr) (c : Nat) (hc : l.length ≤ c) (hA : SlAt w A (boolsC l)) :
    Calls Try.prog 6 #[.slice A l.length c] w fun e w' => e = .returned (.bool true) ∧ Kept [] w w' := by
  refine enter (n := 119) (R := fun e L => e = .returned (.bool true)) [.slice A l.length c] Try.func6 rfl rfl rfl (St.refl w) ?_ (fun e w' L' h H => ⟨h, H.kept⟩)
  refine VC_seq ?_
  refine VC_region ?_
  refine vl_v (q_assign rfl) rfl ?_
  refine vl_nil ?_
  refine (th_n ?_)
  refine VC_seq ?_
  refine VC_region ?_
  refine vl_v (q_callV Try.func7 rfl rfl rfl (fun w1 H1 => awake19_calls w1)) rfl ?_
  refine vl_v (q_assign rfl) rfl ?_
  refine vl_nil ?_
  refine (th_n ?_)
  refine VC_seq ?_
  refine VC_region ?_
  refine l_callG Try.func8 rfl rfl rfl (fun w1 H1 => new_calls w1) rfl ?_
  intro x14
  refine vl_v (q_assign rfl) rfl ?_
  refine vl_nil ?_
  refine (th_n ?_)
  refine VC_seq ?_
  refine VC_seq ?_
  refine VC_region ?_
  refine vl_v (q_move rfl) rfl ?_
  refine vl_v (q_eqPN Try.underlying24 rfl rfl) rfl ?_
  refine vl_v (q_move rfl) rfl ?_
  refine vl_vg rfl (q_move rfl) rfl ?_
  refine vl_vg rfl (q_lenS Try.underlying50 rfl) rfl ?_
  refine vl_vg rfl (q_gtr_n (q := 60) Try.underlying3 rfl rfl) rfl ?_
  by_cases hs20 : 60 < l.length
  · skip
    rw [show decide (60 < l.length) = true from decide_eq_true hs20]
    first | (refine vl_v (q_pickT rfl rfl) rfl ?_) | (refine vl_v (q_pickF rfl rfl) rfl ?_)
    refine vl_nil ?_
    refine (th_n ?_)
    refine VC_yes (rfl) ?_
    refine VC_seq ?_
    refine VC_region ?_
    refine vl_v (q_move rfl) rfl ?_
    refine vl_v (q_move rfl) rfl ?_
    refine vl_vg rfl (q_move rfl) rfl ?_
    refine vl_vg rfl (q_nePN Try.underlying24 rfl rfl) rfl ?_
    first | (refine vl_v (q_pickT rfl rfl) rfl ?_) | (refine vl_v (q_pickF rfl rfl) rfl ?_)
    refine vl_v (q_assign rfl) rfl ?_
    refine vl_nil ?_
    refine (th_n ?_)
    refine VC_ret ?_
    refine (th_r ?_)
    refine ⟨_, res1 rfl rfl, ?_⟩
    exact rfl
  · skip
    rw [show decide (60 < l.length) = false from decide_eq_false hs20]
    first | (refine vl_v (q_pickT rfl rfl) rfl ?_) | (refine vl_v (q_pickF rfl rfl) rfl ?_)
    refine vl_nil ?_
    refine (th_n ?_)
    refine VC_no (rfl) ?_
    refine VC_skip ?_
    refine (th_n ?_)
    refine VC_seq ?_
    refine VC_region ?_
    refine vl_v (q_assign rfl) rfl ?_
    refine vl_nil ?_
    refine (th_n ?_)
    refine VC_seq ?_
    refine VC_region ?_
    refine vl_v (q_assign rfl) rfl ?_
    refine vl_nil ?_
    refine (th_n ?_)
    refine VC_seq ?_
    refine VC_seq ?_
    refine VC_region ?_
    refine vl_v (q_assign rfl) rfl ?_
    refine vl_nil ?_
    refine (th_n ?_)
    refine VC_block ?_
    refine VC_loop (ι := OSt) (fun x => x.ok l.length) (fun x => [(0, .slice A l.length c), (3, .bool true), (4, vP x14 0), (5, vN (x.many + 1)), (6, .slice x.B x.L.length x.k), (7, vN x.i)]) (fun x => OPS x14 x) (fun x => l.length - x.i) ⟨0, 0, none, 0, [], [], [], none, 0⟩ (⟨Nat.zero_le _, Nat.le_refl _, rfl, fun m hm => absurd hm (by simp [mids]), by simp, Ups.nil _, fun w h y hy => absurd hy (by simp), Nat.le_refl _⟩) (Sub.cons (s := 0) rfl (Sub.cons (s := 3) rfl (Sub.cons (s := 4) rfl (Sub.cons (s := 5) rfl (Sub.cons (s := 6) rfl (Sub.cons (s := 7) rfl (Sub.nil _))))))) (fun w H => H.addNil 3 1) ?_
    rintro ⟨i, many, AS, cS, ms, G, L, B, k⟩ hp
    obtain ⟨hi, hmy, hids, hok, h8, hups, hg, hk⟩ := hp
    dsimp only at hi hmy hids hok h8 hups hg hk
    dsimp only
    simp only [OPS, BoxR, List.cons_append, List.nil_append, List.append_nil]
    refine VC_seq ?_
    refine VC_seq ?_
    refine VC_region ?_
    refine vl_v (q_move rfl) rfl ?_
    refine vl_v (q_move rfl) rfl ?_
    refine vl_v (q_lenS Try.underlying50 rfl) rfl ?_
    first | (refine vl_v (q_lss_n Try.underlying3 rfl rfl) rfl ?_) | (refine vl_v (q_lss_k Try.underlying3 rfl rfl) rfl ?_)
    refine vl_nil ?_
    refine (th_n ?_)
    refine VC_cond rfl (fun ht30 => ?_) (fun ht30 => ?_)
    · skip
      have hil := of_decide_eq_true ht30
      obtain ⟨q, hq⟩ : ∃ q, l[i]? = some q := ⟨_, List.getElem?_eq_getElem hil⟩
      have hmok : ∀ y ∈ ms, y.1.ok := fun y hy => (hok _ (List.mem_map.2 ⟨y, hy, rfl⟩)).1
      have hLl : L.length = ms.length := by rw [← hids, List.length_map, mids_length]
      refine VC_skip ?_
      refine (th_n ?_)
      refine VC_seq ?_
      refine VC_block ?_
      refine VC_seq ?_
      refine VC_seq ?_
      refine VC_region ?_
      refine vl_v (q_move rfl) rfl ?_
      refine vl_v (q_move rfl) rfl ?_
      refine vl_v (q_idxRd (m := i) Try.underlying50 sz4 rfl rfl hil (Reads.old hA) (by rw [boolsC_length]; omega)) rfl ?_
      refine vl_v (q_as (v := .bool (decide (q = true))) (q_loadRd Try.underlying4 rfl rfl (Reads.old hA) (boolsC_at hq)) (by cases q <;> rfl)) rfl ?_
      by_cases hs36 : q = true
      · skip
        rw [show decide (q = true) = true from decide_eq_true hs36]
        refine vl_v (q_move rfl) rfl ?_
        refine vl_vg rfl (q_move rfl) rfl ?_
        refine vl_vg rfl (q_lenS Try.underlying49 rfl) rfl ?_
        refine vl_vg rfl (q_gtr_n (q := 0) Try.underlying3 rfl rfl) rfl ?_
        by_cases hs40 : 0 < L.length
        · skip
          rw [show decide (0 < L.length) = true from decide_eq_true hs40]
          first | (refine vl_v (q_pickT rfl rfl) rfl ?_) | (refine vl_v (q_pickF rfl rfl) rfl ?_)
          refine vl_nil ?_
          refine (th_n ?_)
          refine VC_yes (rfl) ?_
          refine VC_seq ?_
          refine VC_region ?_
          refine vl_v (q_move rfl) rfl ?_
          refine vl_v (q_move rfl) rfl ?_
          refine vl_v (q_lenS Try.underlying49 rfl) rfl ?_
          refine vl_v (q_rem_n rfl rfl (by omega)) rfl ?_
          refine vl_v (q_assign rfl) rfl ?_
          obtain ⟨kk, hkk⟩ : ∃ z, z = i % L.length := ⟨_, rfl⟩
          have hkl : kk < L.length := hkk ▸ Nat.mod_lt _ hs40
          rw [← hkk]
          obtain ⟨id, hid⟩ : ∃ z, L[kk]? = some z := ⟨_, List.getElem?_eq_getElem hkl⟩
          have him : id ∈ (mids ms).map Mm.id := hids ▸ List.mem_of_getElem? hid
          have hrg : 1 ≤ id ∧ id ≤ (many : Int) := by
            obtain ⟨m, hm, rfl⟩ := List.mem_map.1 him
            exact hups.rng m hm
          have hAck := fun (R : List Res) w1 H1 => ack_calls (S := []) (w0 := w) (w1 := w1) (b := x14) (c := cS) (many := many) (A := AS) (ms := ms) (R := R) id (by obtain ⟨j, rfl⟩ := Int.eq_ofNat_of_zero_le (show 0 ≤ id by omega); exact wf_small j (by omega)) hmok h8 H1
          rw [ack_kept19 hups him] at hAck
          refine vl_nil ?_
          refine (th_n ?_)
          refine VC_seq ?_
          refine VC_seq ?_
          refine VC_region ?_
          refine vl_v (q_move rfl) rfl ?_
          refine vl_v (q_move rfl) rfl ?_
          refine vl_v (q_move rfl) rfl ?_
          refine vl_v (q_idxRd (m := kk) Try.underlying49 sz3 rfl rfl hkl (Reads.row 2 rfl) (by rw [i64s_length]; exact hkl)) rfl ?_
          refine vl_v (q_loadRd Try.underlying3 rfl rfl (Reads.row 2 rfl) (i64s_get hid)) rfl ?_
          refine l_call (F := fun v L' => ∃ A' c' ms', v = vI 0 ∧ mids ms' = (mids ms).eraseP (fun m => decide (m.id = id)) ∧ (∀ y ∈ ms', y ∈ ms) ∧ L' = [.blk x14 57 [.slice A' ms'.length c', vN many], .row 52 138 (.slice A' ms'.length c') ms'.length (mailsC ms'), .row 3 1 (.slice B L.length k) L.length (i64s L)] ++ G) Try.func11 rfl rfl rfl (fun w1 H1 => (hAck (.row 3 1 (.slice B L.length k) L.length (i64s L) :: G) w1 H1).mono fun e w' h => ?_) rfl ?_
          · obtain ⟨A', c', ms', h1, h2, h3, h4⟩ := h
            exact ⟨_, _, h1, ⟨A', c', ms', rfl, h2, h3, rfl⟩, h4⟩
          rintro v L' ⟨A1, c1, ms1, rfl, hm1, hsub1, rfl⟩
          simp only [List.cons_append, List.nil_append]
          refine vl_v (q_as (v := .bool false) (q_neq_k Try.underlying41 rfl rfl) (by simp)) rfl ?_
          refine vl_nil ?_
          refine (th_n ?_)
          refine VC_no (rfl) ?_
          refine VC_skip ?_
          refine (th_n ?_)
          have lt1 : ((i64s L).take kk).length = kk * 1 := by rw [List.length_take, i64s_length]; omega
          have lt2 : ((i64s L).drop ((kk + 1) * 1)).length = (L.length - (kk + 1)) * 1 := by rw [List.length_drop, i64s_length]; omega
          have ot1 : ∀ v ∈ (i64s L).take kk, v.oneCell' = true := fun v hv => i64s_one L v (List.mem_of_mem_take hv)
          have ot2 : ∀ v ∈ (i64s L).drop ((kk + 1) * 1), v.oneCell' = true := fun v hv => i64s_one L v (List.mem_of_mem_drop hv)
          refine VC_frame (X := [_, _, _]) (fun w9 H9 => ?_)
          refine VC_drawQ 9 3 [[], [], [], [1, 2], [0, 3], [], [], [6], [5, 7], [4, 8], [9, 0, 1, 2, 3, 4, 5, 6, 7, 8]] [[], [], [], [1, 2], [0, 1, 2, 3], [], [], [6], [5, 6, 7], [0, 1, 2, 3, 4, 5, 6, 7, 8], [0, 1, 2, 3, 4, 5, 6, 7, 8, 9]] [([], [], [], [0, 1, 2], []), ([], [], [], [0, 1, 2], []), ([], [], [], [0, 1, 2], []), ([1, 2], [], [], [0, 1, 2], [1, 2]), ([0, 1, 2, 3], [], [0], [0, 1, 2], [1, 2, 3]), ([], [], [], [0, 1, 2], []), ([], [], [], [0, 1, 2], []), ([6], [], [], [0, 1, 2], [6]), ([5, 6, 7], [], [], [0, 1, 2], [5, 6, 7])] [0, 1, 2] [1, 2, 3, 4, 5, 6, 7, 8] rfl rfl (by kernel_rfl) ?_
          refine qp_a (fun xs gs hx => q_litA (cs := i64s []) Try.underlying49 in3 (by decide) rfl rfl rfl rfl (by first | (with_reducible first | exact bys_one _ | exact u32s_one _ | exact u64s_one _ | exact i64s_one _ | exact n64s_one _ | assumption) | exact bys_one _ | exact u32s_one _ | exact u64s_one _ | exact i64s_one _ | exact one_all rfl | (refine app_one ?_ ?_ <;> first | exact bys_one _ | exact one_all rfl | (simp; done))) rfl) ?_
          refine qp_v (fun xs gs hx => q_move rfl) ?_
          refine qp_v (fun xs gs hx => q_move rfl) ?_
          refine qp_v (fun xs gs hx => q_slcS0 Try.underlying49 sz3 rfl ⟨_, rfl⟩ rfl (.inl rfl) (by omega) (by omega)) ?_
          refine qp_append Try.underlying49 Try.underlying49 in3 rfl (by decide) (fun xs gs hx => rfl) (fun xs gs hx => rfl) (fun xs gs hx => ⟨_, _, rfl, fun w' H' => (Row.sl (H'.get (k := 2) rfl)).take kk⟩) (fun xs gs hx => by first | omega | with_reducible assumption | (simp only [zb, zu, zw, zi, za]; omega) | (simp only [zs, zr, zm, za, zb, zu, zw, zi, zt, zd, zc, zn, *] <;> first | done | omega) | rfl) (fun xs gs hx => by first | (with_reducible first | exact bys_one _ | exact u32s_one _ | exact u64s_one _ | exact i64s_one _ | exact n64s_one _ | assumption) | exact bys_one _ | exact u32s_one _ | exact u64s_one _ | exact i64s_one _ | exact one_all rfl | (refine app_one ?_ ?_ <;> first | exact bys_one _ | exact one_all rfl | (simp; done))) (by first | omega | with_reducible assumption | (simp only [zb, zu, zw, zi, za]; omega) | (simp only [zs, zr, zm, za, zb, zu, zw, zi, zt, zd, zc, zn, *] <;> first | done | omega) | rfl) (by first | omega | with_reducible assumption | (simp only [zb, zu, zw, zi, za]; omega) | (simp only [zs, zr, zm, za, zb, zu, zw, zi, zt, zd, zc, zn, *] <;> first | done | omega) | rfl) ?_
          refine qp_v (fun xs gs hx => q_move rfl) ?_
          refine qp_v (fun xs gs hx => q_move rfl) ?_
          first | (refine qp_v (fun xs gs hx => q_add_n (q := 1) rfl rfl (by omega)) ?_) | (refine qp_v (fun xs gs hx => q_add_i rfl rfl (by omega) (by omega)) ?_)
          refine qp_v (fun xs gs hx => q_slcS Try.underlying49 sz3 rfl ⟨_, rfl⟩ rfl rfl (.inl rfl) (by omega) (by omega) (by omega)) ?_
          refine qp_end ?_
          intro xs gs hx
          obtain ⟨⟨b53, e53⟩, ⟨A57, c57, e57, hc57, hm57⟩, _⟩ := hx
          simp only [selI, ownsA, List.contains_cons, List.contains_nil, Nat.reduceBEq, Nat.reduceAdd, Bool.or_false, Bool.or_true, Bool.false_or, Bool.true_or, mask, nRow, nBlk, nRowT, tupAt_0, tupAt_1, List.append_assoc, List.nil_append, List.append_nil, List.cons_append, List.singleton_append, e53, e57]
          refine VL.keep (Sub.cons (s := 0) rfl (Sub.cons (s := 3) rfl (Sub.cons (s := 4) rfl (Sub.cons (s := 5) rfl (Sub.cons (s := 6) rfl (Sub.cons (s := 7) rfl (Sub.cons (s := 30) rfl (Sub.cons (s := 41) rfl (Sub.cons (s := 8) rfl (Sub.cons (s := 52) rfl (Sub.cons (s := 57) rfl (Sub.cons (s := 61) rfl (Sub.nil _))))))))))))) ?_
          refine l_append 3 rfl rfl rfl Try.underlying49 Try.underlying49 in3 rfl (by decide) (fun w' H' => (Row.sl (H'.get (k := 2) rfl)).dropIf (m := (kk + 1) * 1) (fun h => by rw [i64s_length]; omega)) (by first | omega | with_reducible assumption | (simp only [zb, zu, zw, zi, za]; omega) | (simp only [zs, zr, zm, za, zb, zu, zw, zi, zt, zd, zc, zn, *] <;> first | done | omega) | rfl) (by first | (with_reducible first | exact bys_one _ | exact u32s_one _ | exact u64s_one _ | exact i64s_one _ | exact n64s_one _ | assumption) | exact bys_one _ | exact u32s_one _ | exact u64s_one _ | exact i64s_one _ | exact one_all rfl | (refine app_one ?_ ?_ <;> first | exact bys_one _ | exact one_all rfl | (simp; done))) (by first | omega | with_reducible assumption | (simp only [zb, zu, zw, zi, za]; omega) | (simp only [zs, zr, zm, za, zb, zu, zw, zi, zt, zd, zc, zn, *] <;> first | done | omega) | rfl) (by first | omega | with_reducible assumption | (simp only [zb, zu, zw, zi, za]; omega) | (simp only [zs, zr, zm, za, zb, zu, zw, zi, zt, zd, zc, zn, *] <;> first | done | omega) | rfl) rfl ?_
          intro A62 c62 hc62
          simp only [List.set_cons_zero, List.set_cons_succ, ← bys_append, ← u32s_append, ← u64s_append, ← i64s_append, List.nil_append, Nat.zero_add]
          refine vl_v (q_assign rfl) rfl ?_
          obtain ⟨L1, hL1⟩ : ∃ x, x = L.take kk ++ L.drop (kk + 1) := ⟨_, rfl⟩
          have e1 : i64s [] ++ (i64s L).take kk ++ (i64s L).drop ((kk + 1) * 1) = i64s L1 := by rw [hL1, i64s_append, Nat.mul_one]; simp [i64s, List.map_take, List.map_drop]
          have e2 : kk + (L.length - (kk + 1)) = L1.length := by rw [hL1, List.length_append, List.length_take, List.length_drop]; omega
          rw [Nat.zero_add, e2] at hc62
          rw [e2]
          rw [e1]
          refine VL.sub ?_ (Sub.refl _) (fun w H => St.pick H (ks := [0, 1, 3]) (by decide) rfl)
          have hz0 : (⟨i + 1, many, A1, c1, ms1, G, L1, A62, c62⟩ : OSt).ok l.length := ⟨hil, Nat.le_succ_of_le hmy, by show (mids ms1).map Mm.id = L1; rw [hm1, hL1, erase_up hups.up (by rw [hids]; exact hid), hids], by show ∀ m ∈ mids ms1, Mm.okb m; rw [hm1]; exact okb_erase _ hok, by show ms1.length ≤ 8; rw [← mids_length, hm1]; exact Nat.le_trans List.length_eraseP_le (by rw [mids_length]; exact h8), by show Ups (mids ms1) many; rw [hm1]; exact hups.erase _, hg.less hsub1, hc62⟩
          obtain ⟨B1, hB1⟩ : ∃ x, x = A62 := ⟨_, rfl⟩
          obtain ⟨k1, hk1e⟩ : ∃ x, x = c62 := ⟨_, rfl⟩
          subst hB1
          subst hk1e
          obtain ⟨G1, hG1⟩ : ∃ x, x = G := ⟨_, rfl⟩
          subst hG1
          obtain ⟨m1, hm1e⟩ : ∃ x, x = many := ⟨_, rfl⟩
          subst hm1e
          refine vl_nil ?_
          refine (qn_n (th_n ?_))
          refine VC_seq ?_
          refine VC_region ?_
          obtain ⟨hi1, hmy1, hids1, hok1, h81, hups1, hg1, hk1⟩ := (fun h => h : ∀ {p : Prop}, p → p) hz0
          dsimp only at hi1 hmy1 hids1 hok1 h81 hups1 hg1 hk1
          have hok1' : ∀ y ∈ ms1, Mm.okb y.1 := okb_mids rfl hok1
          have hll : ms1.length = L1.length := by rw [← hids1, List.length_map, mids_length]
          refine vl_v (q_move rfl) rfl ?_
          refine l_call (F := fun v L' => ∃ Az cz zs, v = .slice Az ms1.length cz ∧ mids zs = mids ms1 ∧ L' = [.row 52 138 (.slice Az ms1.length cz) ms1.length (mailsC zs), .blk x14 57 [.slice A1 ms1.length c1, vN m1], .row 52 138 (.slice A1 ms1.length c1) ms1.length (mailsC ms1), .row 3 1 (.slice B1 L1.length k1) L1.length (i64s L1)] ++ (bods zs ++ G1)) Try.func14 rfl rfl rfl (fun w1 H1 => (list_calls w1 x14 c1 m1 A1 ms1 (fun y hy => (hok1' y hy).1) (fun y hy => (hok1' y hy).2) h81 (Reads.blk 0 rfl w1 H1) (Reads.row 1 rfl w1 H1) (hg1 w1 (fun g hg => H1.ok g (List.mem_append_right [_, _, _] hg)))).mono fun e w' h => ?_) rfl ?_
          · obtain ⟨z9, h1, h2, h3⟩ := h
            exact ⟨_, _, h1, ⟨_, _, _, rfl, h2, rfl⟩, (H1.join h3).perm (mvL [_, _, _] _ _ _)⟩
          rintro v L' ⟨AL, cL, zs, rfl, hzs, rfl⟩
          simp only [List.cons_append, List.nil_append]
          have hzl : ms1.length = zs.length := by rw [← mids_length ms1, ← hzs, mids_length]
          have hzok : ∀ y ∈ zs, y.1.ok := fun y hy => (okb_mids hzs hok1 y hy).1
          have hzml := mailsC_length hzok
          refine vl_v (q_assign rfl) rfl ?_
          refine vl_nil ?_
          refine (th_n ?_)
          refine VC_seq ?_
          refine VC_seq ?_
          refine VC_region ?_
          refine vl_v (q_move rfl) rfl ?_
          refine vl_v (q_lenS Try.underlying46 rfl) rfl ?_
          refine vl_v (q_move rfl) rfl ?_
          refine vl_v (q_lenS Try.underlying49 rfl) rfl ?_
          refine vl_v (q_as (v := .bool false) (q_neq_n Try.underlying3 rfl rfl) (by rw [hll, decide_eq_true rfl]; rfl)) rfl ?_
          refine vl_nil ?_
          refine (th_n ?_)
          refine VC_no (rfl) ?_
          refine VC_skip ?_
          refine (th_n ?_)
          refine VC_seq ?_
          refine VC_region ?_
          refine vl_v (q_assign rfl) rfl ?_
          refine vl_nil ?_
          refine (th_n ?_)
          refine VC_block ?_
          refine VC_loop (ι := Nat) (fun kx => kx ≤ ms1.length) (fun kx => [(0, .slice A l.length c), (3, .bool true), (4, vP x14 0), (5, vN (m1 + 1)), (6, .slice B1 L1.length k1), (7, vN i), (11, .slice AL ms1.length cL), (12, vN kx)]) (fun kx => .row 52 138 (.slice AL ms1.length cL) ms1.length (mailsC zs) :: .blk x14 57 [.slice A1 ms1.length c1, vN m1] :: .row 52 138 (.slice A1 ms1.length c1) ms1.length (mailsC ms1) :: .row 3 1 (.slice B1 L1.length k1) L1.length (i64s L1) :: (bods zs ++ G1)) (fun kx => ms1.length - kx) 0 (by omega) (Sub.cons (s := 0) rfl (Sub.cons (s := 3) rfl (Sub.cons (s := 4) rfl (Sub.cons (s := 5) rfl (Sub.cons (s := 6) rfl (Sub.cons (s := 7) rfl (Sub.cons (s := 11) rfl (Sub.cons (s := 12) rfl (Sub.nil _))))))))) (fun w H => H) ?_
          rintro kx hp
          refine VC_seq ?_
          refine VC_seq ?_
          refine VC_region ?_
          refine vl_v (q_move rfl) rfl ?_
          refine vl_v (q_move rfl) rfl ?_
          refine vl_v (q_lenS Try.underlying46 rfl) rfl ?_
          first | (refine vl_v (q_lss_n Try.underlying3 rfl rfl) rfl ?_) | (refine vl_v (q_lss_k Try.underlying3 rfl rfl) rfl ?_)
          refine vl_nil ?_
          refine (th_n ?_)
          refine VC_cond rfl (fun ht105 => ?_) (fun ht105 => ?_)
          · skip
            have ht105 := of_decide_eq_true ht105
            obtain ⟨y, hy⟩ : ∃ y, zs[kx]? = some y := ⟨_, List.getElem?_eq_getElem (by omega)⟩
            have hpt := mailsC_part hzok hy
            have hp0 : (mailsC zs)[kx * 138 + 0]? = some (vI y.1.id) := mget_in hpt mailV_id (by omega)
            have hLk : L1[kx]? = some y.1.id := by rw [← hids1, ← hzs, mids, List.getElem?_map, List.getElem?_map, hy]; rfl
            refine VC_skip ?_
            refine (th_n ?_)
            refine VC_seq ?_
            refine VC_block ?_
            refine VC_seq ?_
            refine VC_drawV 9 [[], [], [0, 1], [2], [3], [], [], [5, 6], [7], [4, 8]] [[], [], [0, 1], [0, 1, 2], [0, 1, 2, 3], [], [], [5, 6], [5, 6, 7], [0, 1, 2, 3, 4, 5, 6, 7, 8]] rfl (by kernel_rfl) ?_
            refine qv_v (q_move rfl) ?_
            refine qv_v (q_move rfl) ?_
            refine qv_v (q_idxRdN (m := kx) Try.underlying46 sz52 rfl rfl ht105 (Reads.row 0 rfl) (by rw [hzml]; omega)) ?_
            refine qv_v (q_fldRd fo52_0 (by decide) rfl rfl) ?_
            refine qv_v (q_loadRd Try.underlying3 rfl rfl (Reads.row 0 rfl) hp0) ?_
            refine qv_v (q_move rfl) ?_
            refine qv_v (q_move rfl) ?_
            refine qv_v (q_idxRd (m := kx) Try.underlying49 sz3 rfl rfl (by omega) (Reads.row 3 rfl) (by rw [i64s_length]; omega)) ?_
            refine qv_v (q_loadRd Try.underlying3 rfl rfl (Reads.row 3 rfl) (i64s_get hLk)) ?_
            refine qv_end ?_
            refine VL.keep (Sub.cons (s := 0) rfl (Sub.cons (s := 3) rfl (Sub.cons (s := 4) rfl (Sub.cons (s := 5) rfl (Sub.cons (s := 6) rfl (Sub.cons (s := 7) rfl (Sub.cons (s := 11) rfl (Sub.cons (s := 12) rfl (Sub.cons (s := 105) rfl (Sub.cons (s := 112) rfl (Sub.cons (s := 116) rfl (Sub.nil _)))))))))))) ?_
            refine vl_v (q_as (v := .bool false) (q_neq_k Try.underlying3 rfl rfl) (by simp)) rfl ?_
            refine vl_nil ?_
            refine (qn_n (th_n ?_))
            refine VC_no (rfl) ?_
            refine VC_skip ?_
            refine (bl_n (th_n ?_))
            refine VC_region ?_
            refine vl_v (q_move rfl) rfl ?_
            first | (refine vl_v (q_add_n (q := 1) rfl rfl (by omega)) rfl ?_) | (refine vl_v (q_add_i rfl rfl (by omega) (by omega)) rfl ?_)
            refine vl_v (q_assign rfl) rfl ?_
            refine vl_nil ?_
            refine (th_n ?_)
            refine ⟨kx + 1, by omega, by omega, (Sub.cons (s := 0) rfl (Sub.cons (s := 3) rfl (Sub.cons (s := 4) rfl (Sub.cons (s := 5) rfl (Sub.cons (s := 6) rfl (Sub.cons (s := 7) rfl (Sub.cons (s := 11) rfl (Sub.cons (s := 12) rfl (Sub.nil _))))))))), fun w H => H⟩
          · skip
            let z : OSt := ⟨i + 1, m1, A1, c1, ms1, G1, L1, B1, k1⟩
            have hz : z.ok l.length := hz0
            refine VC_exit ?_
            refine (th_x (th_x (bl_xs (bl_n (th_n ?_)))))
            refine VC_region ?_
            refine vl_v (q_move rfl) rfl ?_
            first | (refine vl_v (q_add_n (q := 1) rfl rfl (by omega)) rfl ?_) | (refine vl_v (q_add_i rfl rfl (by omega) (by omega)) rfl ?_)
            refine vl_v (q_assign rfl) rfl ?_
            refine vl_nil ?_
            refine (th_n ?_)
            refine ⟨z, hz, by show l.length - (i + 1) < l.length - i; omega, (Sub.cons (s := 0) rfl (Sub.cons (s := 3) rfl (Sub.cons (s := 4) rfl (Sub.cons (s := 5) rfl (Sub.cons (s := 6) rfl (Sub.cons (s := 7) rfl (Sub.nil _))))))), fun w H => by first | exact dropO H | exact H⟩
        · skip
          rw [show decide (0 < L.length) = false from decide_eq_false hs40]
          first | (refine vl_v (q_pickT rfl rfl) rfl ?_) | (refine vl_v (q_pickF rfl rfl) rfl ?_)
          refine vl_nil ?_
          refine (th_n ?_)
          refine VC_no (rfl) ?_
          refine VC_seq ?_
          refine VC_region ?_
          have hni : many ≤ 1000 := by omega
          have hE : enR (X19f (i % 8) 0 []) = true := enR_f (by omega) (by omega) (by simp)
          have hPut := fun (R : List Res) w1 H1 => put_calls (w := w) (w1 := w1) (b := x14) (c := cS) (many := many) (A := AS) (ms := ms) (R := R) (X19f (i % 8) 0 []) (s19f i) none 0 z19_length z19_length ⟨z19_length, z19_length⟩ hmok hni (Nat.zero_le _) (SlAt.nil w none) H1
          obtain ⟨u, hu⟩ : ∃ u, putM (mids ms) many (X19f (i % 8) 0 []) (s19f i) = u := ⟨_, rfl⟩
          rw [hu] at hPut
          refine vl_v (q_move rfl) rfl ?_
          refine vl_v (q_move rfl) rfl ?_
          refine vl_v (q_and_k rfl rfl (and7 i (by omega))) rfl ?_
          refine vl_v (q_build (c' := envOf (X19f (i % 8) 0 []) (none, 0)) rfl (by kernel_rfl)) rfl ?_
          refine vl_v (q_move rfl) rfl ?_
          refine vl_v (q_build (c' := stC (s19f i)) rfl (by kernel_rfl)) rfl ?_
          refine l_call (F := fun v L' => ∃ A' c' ms' N, v = .tuple #[vN u.id, vN u.e] ∧ mids ms' = u.l ∧ Fresh N ms ms' ∧ L' = [.blk x14 57 [.slice A' ms'.length c', vN u.many], .row 52 138 (.slice A' ms'.length c') ms'.length (mailsC ms'), .row 3 1 (.slice B L.length k) L.length (i64s L)] ++ (N ++ G)) Try.func9 rfl rfl rfl (fun w1 H1 => (hPut (.row 3 1 (.slice B L.length k) L.length (i64s L) :: G) w1 H1).mono fun e w' h => ?_) rfl ?_
          · obtain ⟨A', c', ms', N, h1, h2, h3, h4⟩ := h
            exact ⟨_, _, h1, ⟨A', c', ms', N, rfl, h2, h3, rfl⟩, h4.perm (mvN _ _ [.row 3 1 (.slice B L.length k) L.length (i64s L)] _)⟩
          rintro v L' ⟨A1, c1, ms1, N1, rfl, hm1, hF1, rfl⟩
          simp only [List.cons_append, List.nil_append]
          refine vl_v (q_move rfl) rfl ?_
          refine vl_v (q_ext rfl rfl) rfl ?_
          refine vl_v (q_ext rfl rfl) rfl ?_
          refine vl_v (q_assign rfl) rfl ?_
          refine vl_v (q_assign rfl) rfl ?_
          refine vl_nil ?_
          refine (th_n ?_)
          refine VC_seq ?_
          refine VC_seq ?_
          refine VC_region ?_
          refine vl_v (q_move rfl) rfl ?_
          refine vl_v (q_lenS Try.underlying49 rfl) rfl ?_
          refine vl_v (q_eql_n (q := 8) Try.underlying3 rfl rfl) rfl ?_
          refine vl_nil ?_
          refine (th_n ?_)
          refine VC_cond rfl (fun ht75 => ?_) (fun ht75 => ?_)
          · skip
            have h8e := of_decide_eq_true ht75
            have huf : u = ⟨0, 8, mids ms, many⟩ := hu ▸ put_full19 hE (by rw [mids_length]; omega)
            subst huf
            dsimp only at hm1 ⊢
            have hl1 : ms1.length = ms.length := by rw [← mids_length, hm1, mids_length]
            let z : OSt := ⟨i + 1, many, A1, c1, ms1, N1 ++ G, L, B, k⟩
            have hz : z.ok l.length := ⟨hil, Nat.le_succ_of_le hmy, by show (mids ms1).map Mm.id = L; rw [hm1]; exact hids, by show ∀ m ∈ mids ms1, Mm.okb m; rw [hm1]; exact hok, by show ms1.length ≤ 8; omega, by show Ups (mids ms1) many; rw [hm1]; exact hups, hg.new hF1, hk⟩
            refine VC_seq ?_
            refine VC_seq ?_
            refine VC_region ?_
            refine vl_v (q_move rfl) rfl ?_
            refine vl_v (q_as (v := .bool false) (q_neq_k Try.underlying41 rfl rfl) (by simp)) rfl ?_
            refine vl_v (q_move rfl) rfl ?_
            refine vl_vg rfl (q_move rfl) rfl ?_
            refine vl_vg rfl (q_as (v := .bool false) (q_neq_k Try.underlying3 rfl rfl) (by simp)) rfl ?_
            first | (refine vl_v (q_pickT rfl rfl) rfl ?_) | (refine vl_v (q_pickF rfl rfl) rfl ?_)
            refine vl_nil ?_
            refine (th_n ?_)
            refine VC_no (rfl) ?_
            refine VC_skip ?_
            refine (th_n ?_)
            refine VC_exit ?_
            refine (th_x (th_x (bl_xs (th_n ?_))))
            refine VC_region ?_
            refine vl_v (q_move rfl) rfl ?_
            first | (refine vl_v (q_add_n (q := 1) rfl rfl (by omega)) rfl ?_) | (refine vl_v (q_add_i rfl rfl (by omega) (by omega)) rfl ?_)
            refine vl_v (q_assign rfl) rfl ?_
            refine vl_nil ?_
            refine (th_n ?_)
            refine ⟨z, hz, by show l.length - (i + 1) < l.length - i; omega, (Sub.cons (s := 0) rfl (Sub.cons (s := 3) rfl (Sub.cons (s := 4) rfl (Sub.cons (s := 5) rfl (Sub.cons (s := 6) rfl (Sub.cons (s := 7) rfl (Sub.nil _))))))), fun w H => by first | exact dropO H | exact H⟩
          · skip
            have h8n := of_decide_eq_false ht75
            have huk : u = ⟨many + 1, 0, mids ms ++ [⟨((many + 1 : Nat) : Int), X19f (i % 8) 0 [], s19f i⟩], many + 1⟩ := hu ▸ put_kept19 hE (by rw [mids_length]; omega)
            subst huk
            dsimp only at hm1 ⊢
            refine VC_skip ?_
            refine (th_n ?_)
            refine VC_seq ?_
            refine VC_seq ?_
            refine VC_region ?_
            refine vl_v (q_move rfl) rfl ?_
            refine vl_v (q_as (v := .bool false) (q_neq_k Try.underlying41 rfl rfl) (by simp)) rfl ?_
            refine vl_v (q_move rfl) rfl ?_
            refine vl_vg rfl (q_move rfl) rfl ?_
            refine vl_vg rfl (q_move rfl) rfl ?_
            refine vl_vg rfl (q_as (v := .bool false) (q_neq_n Try.underlying3 rfl rfl) (by rw [decide_eq_true rfl]; rfl)) rfl ?_
            first | (refine vl_v (q_pickT rfl rfl) rfl ?_) | (refine vl_v (q_pickF rfl rfl) rfl ?_)
            refine vl_nil ?_
            refine (th_n ?_)
            refine VC_no (rfl) ?_
            refine VC_skip ?_
            refine (th_n ?_)
            refine VC_seq ?_
            refine VC_region ?_
            refine vl_v (q_move rfl) rfl ?_
            refine vl_v (q_move rfl) rfl ?_
            refine l_litA (cs := i64s [_]) Try.underlying49 in3 (by decide) rfl rfl rfl rfl (by first | (with_reducible first | exact bys_one _ | exact u32s_one _ | exact u64s_one _ | exact i64s_one _ | exact n64s_one _ | assumption) | exact bys_one _ | exact u32s_one _ | exact u64s_one _ | exact i64s_one _ | exact one_all rfl | (refine app_one ?_ ?_ <;> first | exact bys_one _ | exact one_all rfl | (simp; done))) rfl rfl ?_
            intro b91
            refine l_append 3 rfl rfl rfl Try.underlying49 Try.underlying49 in3 rfl (by decide) (Reads.row 0 rfl) (by first | omega | with_reducible assumption | (simp only [zb, zu, zw, zi, za]; omega) | (simp only [zs, zr, zm, za, zb, zu, zw, zi, zt, zd, zc, zn, *] <;> first | done | omega) | rfl) (by first | (with_reducible first | exact bys_one _ | exact u32s_one _ | exact u64s_one _ | exact i64s_one _ | exact n64s_one _ | assumption) | exact bys_one _ | exact u32s_one _ | exact u64s_one _ | exact i64s_one _ | exact one_all rfl | (refine app_one ?_ ?_ <;> first | exact bys_one _ | exact one_all rfl | (simp; done))) (by first | omega | with_reducible assumption | (simp only [zb, zu, zw, zi, za]; omega) | (simp only [zs, zr, zm, za, zb, zu, zw, zi, zt, zd, zc, zn, *] <;> first | done | omega) | rfl) (by first | omega | with_reducible assumption | (simp only [zb, zu, zw, zi, za]; omega) | (simp only [zs, zr, zm, za, zb, zu, zw, zi, zt, zd, zc, zn, *] <;> first | done | omega) | rfl) rfl ?_
            intro A92 c92 hc92
            simp only [List.set_cons_zero, List.set_cons_succ, ← bys_append, ← u32s_append, ← u64s_append, ← i64s_append, List.nil_append, Nat.zero_add]
            refine vl_v (q_assign rfl) rfl ?_
            refine vl_nil ?_
            refine (th_n ?_)
            refine VC_region ?_
            refine vl_v (q_move rfl) rfl ?_
            first | (refine vl_v (q_add_n (q := 1) rfl rfl (by omega)) rfl ?_) | (refine vl_v (q_add_i rfl rfl (by omega) (by omega)) rfl ?_)
            refine vl_v (q_assign rfl) rfl ?_
            refine VL.sub ?_ (Sub.refl _) (fun w H => H.sub (List.sublist_cons_self _ _))
            obtain ⟨L1, hL1⟩ : ∃ x, x = L ++ [((many + 1 : Nat) : Int)] := ⟨_, rfl⟩
            have e2 : L.length + 1 = L1.length := by rw [hL1, List.length_append, List.length_singleton]
            rw [e2] at hc92 ⊢
            rw [← hL1]
            obtain ⟨m1, hm1e⟩ : ∃ x, x = many + 1 := ⟨_, rfl⟩
            rw [← hm1e]
            obtain ⟨G1, hG1⟩ : ∃ x, x = N1 ++ G := ⟨_, rfl⟩
            rw [← hG1]
            have hz0 : (⟨i + 1, m1, A1, c1, ms1, G1, L1, A92, c92⟩ : OSt).ok l.length := by
              rw [hm1e, hG1]
              exact ⟨hil, Nat.succ_le_succ hmy, by show (mids ms1).map Mm.id = _; rw [hm1, List.map_append, hids, hL1]; rfl, by show ∀ m ∈ mids ms1, Mm.okb m; rw [hm1]; exact okb_put hok (okb_f (Nat.zero_le _) _), by show ms1.length ≤ 8; rw [← mids_length, hm1, List.length_append, mids_length, List.length_singleton]; omega, by show Ups (mids ms1) (many + 1); rw [hm1]; exact hups.put _ _, hg.new hF1, hc92⟩
            obtain ⟨B1, hB1⟩ : ∃ x, x = A92 := ⟨_, rfl⟩
            obtain ⟨k1, hk1e⟩ : ∃ x, x = c92 := ⟨_, rfl⟩
            subst hB1
            subst hk1e
            refine vl_nil ?_
            refine (th_n ?_)
            refine VC_seq ?_
            refine VC_region ?_
            obtain ⟨hi1, hmy1, hids1, hok1, h81, hups1, hg1, hk1⟩ := (fun h => h : ∀ {p : Prop}, p → p) hz0
            dsimp only at hi1 hmy1 hids1 hok1 h81 hups1 hg1 hk1
            have hok1' : ∀ y ∈ ms1, Mm.okb y.1 := okb_mids rfl hok1
            have hll : ms1.length = L1.length := by rw [← hids1, List.length_map, mids_length]
            refine vl_v (q_move rfl) rfl ?_
            refine l_call (F := fun v L' => ∃ Az cz zs, v = .slice Az ms1.length cz ∧ mids zs = mids ms1 ∧ L' = [.row 52 138 (.slice Az ms1.length cz) ms1.length (mailsC zs), .blk x14 57 [.slice A1 ms1.length c1, vN m1], .row 52 138 (.slice A1 ms1.length c1) ms1.length (mailsC ms1), .row 3 1 (.slice B1 L1.length k1) L1.length (i64s L1)] ++ (bods zs ++ G1)) Try.func14 rfl rfl rfl (fun w1 H1 => (list_calls w1 x14 c1 m1 A1 ms1 (fun y hy => (hok1' y hy).1) (fun y hy => (hok1' y hy).2) h81 (Reads.blk 0 rfl w1 H1) (Reads.row 1 rfl w1 H1) (hg1 w1 (fun g hg => H1.ok g (List.mem_append_right [_, _, _] hg)))).mono fun e w' h => ?_) rfl ?_
            · obtain ⟨z9, h1, h2, h3⟩ := h
              exact ⟨_, _, h1, ⟨_, _, _, rfl, h2, rfl⟩, (H1.join h3).perm (mvL [_, _, _] _ _ _)⟩
            rintro v L' ⟨AL, cL, zs, rfl, hzs, rfl⟩
            simp only [List.cons_append, List.nil_append]
            have hzl : ms1.length = zs.length := by rw [← mids_length ms1, ← hzs, mids_length]
            have hzok : ∀ y ∈ zs, y.1.ok := fun y hy => (okb_mids hzs hok1 y hy).1
            have hzml := mailsC_length hzok
            refine vl_v (q_assign rfl) rfl ?_
            refine vl_nil ?_
            refine (th_n ?_)
            refine VC_seq ?_
            refine VC_seq ?_
            refine VC_region ?_
            refine vl_v (q_move rfl) rfl ?_
            refine vl_v (q_lenS Try.underlying46 rfl) rfl ?_
            refine vl_v (q_move rfl) rfl ?_
            refine vl_v (q_lenS Try.underlying49 rfl) rfl ?_
            refine vl_v (q_as (v := .bool false) (q_neq_n Try.underlying3 rfl rfl) (by rw [hll, decide_eq_true rfl]; rfl)) rfl ?_
            refine vl_nil ?_
            refine (th_n ?_)
            refine VC_no (rfl) ?_
            refine VC_skip ?_
            refine (th_n ?_)
            refine VC_seq ?_
            refine VC_region ?_
            refine vl_v (q_assign rfl) rfl ?_
            refine vl_nil ?_
            refine (th_n ?_)
            refine VC_block ?_
            refine VC_loop (ι := Nat) (fun kx => kx ≤ ms1.length) (fun kx => [(0, .slice A l.length c), (3, .bool true), (4, vP x14 0), (5, vN (m1 + 1)), (6, .slice B1 L1.length k1), (7, vN i), (11, .slice AL ms1.length cL), (12, vN kx)]) (fun kx => .row 52 138 (.slice AL ms1.length cL) ms1.length (mailsC zs) :: .blk x14 57 [.slice A1 ms1.length c1, vN m1] :: .row 52 138 (.slice A1 ms1.length c1) ms1.length (mailsC ms1) :: .row 3 1 (.slice B1 L1.length k1) L1.length (i64s L1) :: (bods zs ++ G1)) (fun kx => ms1.length - kx) 0 (by omega) (Sub.cons (s := 0) rfl (Sub.cons (s := 3) rfl (Sub.cons (s := 4) rfl (Sub.cons (s := 5) rfl (Sub.cons (s := 6) rfl (Sub.cons (s := 7) rfl (Sub.cons (s := 11) rfl (Sub.cons (s := 12) rfl (Sub.nil _))))))))) (fun w H => H) ?_
            rintro kx hp
            refine VC_seq ?_
            refine VC_seq ?_
            refine VC_region ?_
            refine vl_v (q_move rfl) rfl ?_
            refine vl_v (q_move rfl) rfl ?_
            refine vl_v (q_lenS Try.underlying46 rfl) rfl ?_
            first | (refine vl_v (q_lss_n Try.underlying3 rfl rfl) rfl ?_) | (refine vl_v (q_lss_k Try.underlying3 rfl rfl) rfl ?_)
            refine vl_nil ?_
            refine (th_n ?_)
            refine VC_cond rfl (fun ht105 => ?_) (fun ht105 => ?_)
            · skip
              have ht105 := of_decide_eq_true ht105
              obtain ⟨y, hy⟩ : ∃ y, zs[kx]? = some y := ⟨_, List.getElem?_eq_getElem (by omega)⟩
              have hpt := mailsC_part hzok hy
              have hp0 : (mailsC zs)[kx * 138 + 0]? = some (vI y.1.id) := mget_in hpt mailV_id (by omega)
              have hLk : L1[kx]? = some y.1.id := by rw [← hids1, ← hzs, mids, List.getElem?_map, List.getElem?_map, hy]; rfl
              refine VC_skip ?_
              refine (th_n ?_)
              refine VC_seq ?_
              refine VC_block ?_
              refine VC_seq ?_
              refine VC_drawV 9 [[], [], [0, 1], [2], [3], [], [], [5, 6], [7], [4, 8]] [[], [], [0, 1], [0, 1, 2], [0, 1, 2, 3], [], [], [5, 6], [5, 6, 7], [0, 1, 2, 3, 4, 5, 6, 7, 8]] rfl (by kernel_rfl) ?_
              refine qv_v (q_move rfl) ?_
              refine qv_v (q_move rfl) ?_
              refine qv_v (q_idxRdN (m := kx) Try.underlying46 sz52 rfl rfl ht105 (Reads.row 0 rfl) (by rw [hzml]; omega)) ?_
              refine qv_v (q_fldRd fo52_0 (by decide) rfl rfl) ?_
              refine qv_v (q_loadRd Try.underlying3 rfl rfl (Reads.row 0 rfl) hp0) ?_
              refine qv_v (q_move rfl) ?_
              refine qv_v (q_move rfl) ?_
              refine qv_v (q_idxRd (m := kx) Try.underlying49 sz3 rfl rfl (by omega) (Reads.row 3 rfl) (by rw [i64s_length]; omega)) ?_
              refine qv_v (q_loadRd Try.underlying3 rfl rfl (Reads.row 3 rfl) (i64s_get hLk)) ?_
              refine qv_end ?_
              refine VL.keep (Sub.cons (s := 0) rfl (Sub.cons (s := 3) rfl (Sub.cons (s := 4) rfl (Sub.cons (s := 5) rfl (Sub.cons (s := 6) rfl (Sub.cons (s := 7) rfl (Sub.cons (s := 11) rfl (Sub.cons (s := 12) rfl (Sub.cons (s := 105) rfl (Sub.cons (s := 112) rfl (Sub.cons (s := 116) rfl (Sub.nil _)))))))))))) ?_
              refine vl_v (q_as (v := .bool false) (q_neq_k Try.underlying3 rfl rfl) (by simp)) rfl ?_
              refine vl_nil ?_
              refine (qn_n (th_n ?_))
              refine VC_no (rfl) ?_
              refine VC_skip ?_
              refine (bl_n (th_n ?_))
              refine VC_region ?_
              refine vl_v (q_move rfl) rfl ?_
              first | (refine vl_v (q_add_n (q := 1) rfl rfl (by omega)) rfl ?_) | (refine vl_v (q_add_i rfl rfl (by omega) (by omega)) rfl ?_)
              refine vl_v (q_assign rfl) rfl ?_
              refine vl_nil ?_
              refine (th_n ?_)
              refine ⟨kx + 1, by omega, by omega, (Sub.cons (s := 0) rfl (Sub.cons (s := 3) rfl (Sub.cons (s := 4) rfl (Sub.cons (s := 5) rfl (Sub.cons (s := 6) rfl (Sub.cons (s := 7) rfl (Sub.cons (s := 11) rfl (Sub.cons (s := 12) rfl (Sub.nil _))))))))), fun w H => H⟩
            · skip
              let z : OSt := ⟨i + 1, m1, A1, c1, ms1, G1, L1, B1, k1⟩
              have hz : z.ok l.length := hz0
              refine VC_exit ?_
              refine (th_x (th_x (bl_xs (bl_n (th_n ?_)))))
              refine VC_region ?_
              refine vl_v (q_move rfl) rfl ?_
              first | (refine vl_v (q_add_n (q := 1) rfl rfl (by omega)) rfl ?_) | (refine vl_v (q_add_i rfl rfl (by omega) (by omega)) rfl ?_)
              refine vl_v (q_assign rfl) rfl ?_
              refine vl_nil ?_
              refine (th_n ?_)
              refine ⟨z, hz, by show l.length - (i + 1) < l.length - i; omega, (Sub.cons (s := 0) rfl (Sub.cons (s := 3) rfl (Sub.cons (s := 4) rfl (Sub.cons (s := 5) rfl (Sub.cons (s := 6) rfl (Sub.cons (s := 7) rfl (Sub.nil _))))))), fun w H => by first | exact dropO H | exact H⟩
      · skip
        rw [show decide (q = true) = false from decide_eq_false hs36]
        refine vl_v (q_move rfl) rfl ?_
        refine vl_skip rfl rfl ?_
        refine vl_skip rfl rfl ?_
        refine vl_skip rfl rfl ?_
        first | (refine vl_v (q_pickT rfl rfl) rfl ?_) | (refine vl_v (q_pickF rfl rfl) rfl ?_)
        refine vl_nil ?_
        refine (th_n ?_)
        refine VC_no (rfl) ?_
        refine VC_seq ?_
        refine VC_region ?_
        have hni : many ≤ 1000 := by omega
        have hE : enR (X19f (i % 8) 0 []) = true := enR_f (by omega) (by omega) (by simp)
        have hPut := fun (R : List Res) w1 H1 => put_calls (w := w) (w1 := w1) (b := x14) (c := cS) (many := many) (A := AS) (ms := ms) (R := R) (X19f (i % 8) 0 []) (s19f i) none 0 z19_length z19_length ⟨z19_length, z19_length⟩ hmok hni (Nat.zero_le _) (SlAt.nil w none) H1
        obtain ⟨u, hu⟩ : ∃ u, putM (mids ms) many (X19f (i % 8) 0 []) (s19f i) = u := ⟨_, rfl⟩
        rw [hu] at hPut
        refine vl_v (q_move rfl) rfl ?_
        refine vl_v (q_move rfl) rfl ?_
        refine vl_v (q_and_k rfl rfl (and7 i (by omega))) rfl ?_
        refine vl_v (q_build (c' := envOf (X19f (i % 8) 0 []) (none, 0)) rfl (by kernel_rfl)) rfl ?_
        refine vl_v (q_move rfl) rfl ?_
        refine vl_v (q_build (c' := stC (s19f i)) rfl (by kernel_rfl)) rfl ?_
        refine l_call (F := fun v L' => ∃ A' c' ms' N, v = .tuple #[vN u.id, vN u.e] ∧ mids ms' = u.l ∧ Fresh N ms ms' ∧ L' = [.blk x14 57 [.slice A' ms'.length c', vN u.many], .row 52 138 (.slice A' ms'.length c') ms'.length (mailsC ms'), .row 3 1 (.slice B L.length k) L.length (i64s L)] ++ (N ++ G)) Try.func9 rfl rfl rfl (fun w1 H1 => (hPut (.row 3 1 (.slice B L.length k) L.length (i64s L) :: G) w1 H1).mono fun e w' h => ?_) rfl ?_
        · obtain ⟨A', c', ms', N, h1, h2, h3, h4⟩ := h
          exact ⟨_, _, h1, ⟨A', c', ms', N, rfl, h2, h3, rfl⟩, h4.perm (mvN _ _ [.row 3 1 (.slice B L.length k) L.length (i64s L)] _)⟩
        rintro v L' ⟨A1, c1, ms1, N1, rfl, hm1, hF1, rfl⟩
        simp only [List.cons_append, List.nil_append]
        refine vl_v (q_move rfl) rfl ?_
        refine vl_v (q_ext rfl rfl) rfl ?_
        refine vl_v (q_ext rfl rfl) rfl ?_
        refine vl_v (q_assign rfl) rfl ?_
        refine vl_v (q_assign rfl) rfl ?_
        refine vl_nil ?_
        refine (th_n ?_)
        refine VC_seq ?_
        refine VC_seq ?_
        refine VC_region ?_
        refine vl_v (q_move rfl) rfl ?_
        refine vl_v (q_lenS Try.underlying49 rfl) rfl ?_
        refine vl_v (q_eql_n (q := 8) Try.underlying3 rfl rfl) rfl ?_
        refine vl_nil ?_
        refine (th_n ?_)
        refine VC_cond rfl (fun ht75 => ?_) (fun ht75 => ?_)
        · skip
          have h8e := of_decide_eq_true ht75
          have huf : u = ⟨0, 8, mids ms, many⟩ := hu ▸ put_full19 hE (by rw [mids_length]; omega)
          subst huf
          dsimp only at hm1 ⊢
          have hl1 : ms1.length = ms.length := by rw [← mids_length, hm1, mids_length]
          let z : OSt := ⟨i + 1, many, A1, c1, ms1, N1 ++ G, L, B, k⟩
          have hz : z.ok l.length := ⟨hil, Nat.le_succ_of_le hmy, by show (mids ms1).map Mm.id = L; rw [hm1]; exact hids, by show ∀ m ∈ mids ms1, Mm.okb m; rw [hm1]; exact hok, by show ms1.length ≤ 8; omega, by show Ups (mids ms1) many; rw [hm1]; exact hups, hg.new hF1, hk⟩
          refine VC_seq ?_
          refine VC_seq ?_
          refine VC_region ?_
          refine vl_v (q_move rfl) rfl ?_
          refine vl_v (q_as (v := .bool false) (q_neq_k Try.underlying41 rfl rfl) (by simp)) rfl ?_
          refine vl_v (q_move rfl) rfl ?_
          refine vl_vg rfl (q_move rfl) rfl ?_
          refine vl_vg rfl (q_as (v := .bool false) (q_neq_k Try.underlying3 rfl rfl) (by simp)) rfl ?_
          first | (refine vl_v (q_pickT rfl rfl) rfl ?_) | (refine vl_v (q_pickF rfl rfl) rfl ?_)
          refine vl_nil ?_
          refine (th_n ?_)
          refine VC_no (rfl) ?_
          refine VC_skip ?_
          refine (th_n ?_)
          refine VC_exit ?_
          refine (th_x (th_x (bl_xs (th_n ?_))))
          refine VC_region ?_
          refine vl_v (q_move rfl) rfl ?_
          first | (refine vl_v (q_add_n (q := 1) rfl rfl (by omega)) rfl ?_) | (refine vl_v (q_add_i rfl rfl (by omega) (by omega)) rfl ?_)
          refine vl_v (q_assign rfl) rfl ?_
          refine vl_nil ?_
          refine (th_n ?_)
          refine ⟨z, hz, by show l.length - (i + 1) < l.length - i; omega, (Sub.cons (s := 0) rfl (Sub.cons (s := 3) rfl (Sub.cons (s := 4) rfl (Sub.cons (s := 5) rfl (Sub.cons (s := 6) rfl (Sub.cons (s := 7) rfl (Sub.nil _))))))), fun w H => by first | exact dropO H | exact H⟩
        · skip
          have h8n := of_decide_eq_false ht75
          have huk : u = ⟨many + 1, 0, mids ms ++ [⟨((many + 1 : Nat) : Int), X19f (i % 8) 0 [], s19f i⟩], many + 1⟩ := hu ▸ put_kept19 hE (by rw [mids_length]; omega)
          subst huk
          dsimp only at hm1 ⊢
          refine VC_skip ?_
          refine (th_n ?_)
          refine VC_seq ?_
          refine VC_seq ?_
          refine VC_region ?_
          refine vl_v (q_move rfl) rfl ?_
          refine vl_v (q_as (v := .bool false) (q_neq_k Try.underlying41 rfl rfl) (by simp)) rfl ?_
          refine vl_v (q_move rfl) rfl ?_
          refine vl_vg rfl (q_move rfl) rfl ?_
          refine vl_vg rfl (q_move rfl) rfl ?_
          refine vl_vg rfl (q_as (v := .bool false) (q_neq_n Try.underlying3 rfl rfl) (by rw [decide_eq_true rfl]; rfl)) rfl ?_
          first | (refine vl_v (q_pickT rfl rfl) rfl ?_) | (refine vl_v (q_pickF rfl rfl) rfl ?_)
          refine vl_nil ?_
          refine (th_n ?_)
          refine VC_no (rfl) ?_
          refine VC_skip ?_
          refine (th_n ?_)
          refine VC_seq ?_
          refine VC_region ?_
          refine vl_v (q_move rfl) rfl ?_
          refine vl_v (q_move rfl) rfl ?_
          refine l_litA (cs := i64s [_]) Try.underlying49 in3 (by decide) rfl rfl rfl rfl (by first | (with_reducible first | exact bys_one _ | exact u32s_one _ | exact u64s_one _ | exact i64s_one _ | exact n64s_one _ | assumption) | exact bys_one _ | exact u32s_one _ | exact u64s_one _ | exact i64s_one _ | exact one_all rfl | (refine app_one ?_ ?_ <;> first | exact bys_one _ | exact one_all rfl | (simp; done))) rfl rfl ?_
          intro b91
          refine l_append 3 rfl rfl rfl Try.underlying49 Try.underlying49 in3 rfl (by decide) (Reads.row 0 rfl) (by first | omega | with_reducible assumption | (simp only [zb, zu, zw, zi, za]; omega) | (simp only [zs, zr, zm, za, zb, zu, zw, zi, zt, zd, zc, zn, *] <;> first | done | omega) | rfl) (by first | (with_reducible first | exact bys_one _ | exact u32s_one _ | exact u64s_one _ | exact i64s_one _ | exact n64s_one _ | assumption) | exact bys_one _ | exact u32s_one _ | exact u64s_one _ | exact i64s_one _ | exact one_all rfl | (refine app_one ?_ ?_ <;> first | exact bys_one _ | exact one_all rfl | (simp; done))) (by first | omega | with_reducible assumption | (simp only [zb, zu, zw, zi, za]; omega) | (simp only [zs, zr, zm, za, zb, zu, zw, zi, zt, zd, zc, zn, *] <;> first | done | omega) | rfl) (by first | omega | with_reducible assumption | (simp only [zb, zu, zw, zi, za]; omega) | (simp only [zs, zr, zm, za, zb, zu, zw, zi, zt, zd, zc, zn, *] <;> first | done | omega) | rfl) rfl ?_
          intro A92 c92 hc92
          simp only [List.set_cons_zero, List.set_cons_succ, ← bys_append, ← u32s_append, ← u64s_append, ← i64s_append, List.nil_append, Nat.zero_add]
          refine vl_v (q_assign rfl) rfl ?_
          refine vl_nil ?_
          refine (th_n ?_)
          refine VC_region ?_
          refine vl_v (q_move rfl) rfl ?_
          first | (refine vl_v (q_add_n (q := 1) rfl rfl (by omega)) rfl ?_) | (refine vl_v (q_add_i rfl rfl (by omega) (by omega)) rfl ?_)
          refine vl_v (q_assign rfl) rfl ?_
          refine VL.sub ?_ (Sub.refl _) (fun w H => H.sub (List.sublist_cons_self _ _))
          obtain ⟨L1, hL1⟩ : ∃ x, x = L ++ [((many + 1 : Nat) : Int)] := ⟨_, rfl⟩
          have e2 : L.length + 1 = L1.length := by rw [hL1, List.length_append, List.length_singleton]
          rw [e2] at hc92 ⊢
          rw [← hL1]
          obtain ⟨m1, hm1e⟩ : ∃ x, x = many + 1 := ⟨_, rfl⟩
          rw [← hm1e]
          obtain ⟨G1, hG1⟩ : ∃ x, x = N1 ++ G := ⟨_, rfl⟩
          rw [← hG1]
          have hz0 : (⟨i + 1, m1, A1, c1, ms1, G1, L1, A92, c92⟩ : OSt).ok l.length := by
            rw [hm1e, hG1]
            exact ⟨hil, Nat.succ_le_succ hmy, by show (mids ms1).map Mm.id = _; rw [hm1, List.map_append, hids, hL1]; rfl, by show ∀ m ∈ mids ms1, Mm.okb m; rw [hm1]; exact okb_put hok (okb_f (Nat.zero_le _) _), by show ms1.length ≤ 8; rw [← mids_length, hm1, List.length_append, mids_length, List.length_singleton]; omega, by show Ups (mids ms1) (many + 1); rw [hm1]; exact hups.put _ _, hg.new hF1, hc92⟩
          obtain ⟨B1, hB1⟩ : ∃ x, x = A92 := ⟨_, rfl⟩
          obtain ⟨k1, hk1e⟩ : ∃ x, x = c92 := ⟨_, rfl⟩
          subst hB1
          subst hk1e
          refine vl_nil ?_
          refine (th_n ?_)
          refine VC_seq ?_
          refine VC_region ?_
          obtain ⟨hi1, hmy1, hids1, hok1, h81, hups1, hg1, hk1⟩ := (fun h => h : ∀ {p : Prop}, p → p) hz0
          dsimp only at hi1 hmy1 hids1 hok1 h81 hups1 hg1 hk1
          have hok1' : ∀ y ∈ ms1, Mm.okb y.1 := okb_mids rfl hok1
          have hll : ms1.length = L1.length := by rw [← hids1, List.length_map, mids_length]
          refine vl_v (q_move rfl) rfl ?_
          refine l_call (F := fun v L' => ∃ Az cz zs, v = .slice Az ms1.length cz ∧ mids zs = mids ms1 ∧ L' = [.row 52 138 (.slice Az ms1.length cz) ms1.length (mailsC zs), .blk x14 57 [.slice A1 ms1.length c1, vN m1], .row 52 138 (.slice A1 ms1.length c1) ms1.length (mailsC ms1), .row 3 1 (.slice B1 L1.length k1) L1.length (i64s L1)] ++ (bods zs ++ G1)) Try.func14 rfl rfl rfl (fun w1 H1 => (list_calls w1 x14 c1 m1 A1 ms1 (fun y hy => (hok1' y hy).1) (fun y hy => (hok1' y hy).2) h81 (Reads.blk 0 rfl w1 H1) (Reads.row 1 rfl w1 H1) (hg1 w1 (fun g hg => H1.ok g (List.mem_append_right [_, _, _] hg)))).mono fun e w' h => ?_) rfl ?_
          · obtain ⟨z9, h1, h2, h3⟩ := h
            exact ⟨_, _, h1, ⟨_, _, _, rfl, h2, rfl⟩, (H1.join h3).perm (mvL [_, _, _] _ _ _)⟩
          rintro v L' ⟨AL, cL, zs, rfl, hzs, rfl⟩
          simp only [List.cons_append, List.nil_append]
          have hzl : ms1.length = zs.length := by rw [← mids_length ms1, ← hzs, mids_length]
          have hzok : ∀ y ∈ zs, y.1.ok := fun y hy => (okb_mids hzs hok1 y hy).1
          have hzml := mailsC_length hzok
          refine vl_v (q_assign rfl) rfl ?_
          refine vl_nil ?_
          refine (th_n ?_)
          refine VC_seq ?_
          refine VC_seq ?_
          refine VC_region ?_
          refine vl_v (q_move rfl) rfl ?_
          refine vl_v (q_lenS Try.underlying46 rfl) rfl ?_
          refine vl_v (q_move rfl) rfl ?_
          refine vl_v (q_lenS Try.underlying49 rfl) rfl ?_
          refine vl_v (q_as (v := .bool false) (q_neq_n Try.underlying3 rfl rfl) (by rw [hll, decide_eq_true rfl]; rfl)) rfl ?_
          refine vl_nil ?_
          refine (th_n ?_)
          refine VC_no (rfl) ?_
          refine VC_skip ?_
          refine (th_n ?_)
          refine VC_seq ?_
          refine VC_region ?_
          refine vl_v (q_assign rfl) rfl ?_
          refine vl_nil ?_
          refine (th_n ?_)
          refine VC_block ?_
          refine VC_loop (ι := Nat) (fun kx => kx ≤ ms1.length) (fun kx => [(0, .slice A l.length c), (3, .bool true), (4, vP x14 0), (5, vN (m1 + 1)), (6, .slice B1 L1.length k1), (7, vN i), (11, .slice AL ms1.length cL), (12, vN kx)]) (fun kx => .row 52 138 (.slice AL ms1.length cL) ms1.length (mailsC zs) :: .blk x14 57 [.slice A1 ms1.length c1, vN m1] :: .row 52 138 (.slice A1 ms1.length c1) ms1.length (mailsC ms1) :: .row 3 1 (.slice B1 L1.length k1) L1.length (i64s L1) :: (bods zs ++ G1)) (fun kx => ms1.length - kx) 0 (by omega) (Sub.cons (s := 0) rfl (Sub.cons (s := 3) rfl (Sub.cons (s := 4) rfl (Sub.cons (s := 5) rfl (Sub.cons (s := 6) rfl (Sub.cons (s := 7) rfl (Sub.cons (s := 11) rfl (Sub.cons (s := 12) rfl (Sub.nil _))))))))) (fun w H => H) ?_
          rintro kx hp
          refine VC_seq ?_
          refine VC_seq ?_
          refine VC_region ?_
          refine vl_v (q_move rfl) rfl ?_
          refine vl_v (q_move rfl) rfl ?_
          refine vl_v (q_lenS Try.underlying46 rfl) rfl ?_
          first | (refine vl_v (q_lss_n Try.underlying3 rfl rfl) rfl ?_) | (refine vl_v (q_lss_k Try.underlying3 rfl rfl) rfl ?_)
          refine vl_nil ?_
          refine (th_n ?_)
          refine VC_cond rfl (fun ht105 => ?_) (fun ht105 => ?_)
          · skip
            have ht105 := of_decide_eq_true ht105
            obtain ⟨y, hy⟩ : ∃ y, zs[kx]? = some y := ⟨_, List.getElem?_eq_getElem (by omega)⟩
            have hpt := mailsC_part hzok hy
            have hp0 : (mailsC zs)[kx * 138 + 0]? = some (vI y.1.id) := mget_in hpt mailV_id (by omega)
            have hLk : L1[kx]? = some y.1.id := by rw [← hids1, ← hzs, mids, List.getElem?_map, List.getElem?_map, hy]; rfl
            refine VC_skip ?_
            refine (th_n ?_)
            refine VC_seq ?_
            refine VC_block ?_
            refine VC_seq ?_
            refine VC_drawV 9 [[], [], [0, 1], [2], [3], [], [], [5, 6], [7], [4, 8]] [[], [], [0, 1], [0, 1, 2], [0, 1, 2, 3], [], [], [5, 6], [5, 6, 7], [0, 1, 2, 3, 4, 5, 6, 7, 8]] rfl (by kernel_rfl) ?_
            refine qv_v (q_move rfl) ?_
            refine qv_v (q_move rfl) ?_
            refine qv_v (q_idxRdN (m := kx) Try.underlying46 sz52 rfl rfl ht105 (Reads.row 0 rfl) (by rw [hzml]; omega)) ?_
            refine qv_v (q_fldRd fo52_0 (by decide) rfl rfl) ?_
            refine qv_v (q_loadRd Try.underlying3 rfl rfl (Reads.row 0 rfl) hp0) ?_
            refine qv_v (q_move rfl) ?_
            refine qv_v (q_move rfl) ?_
            refine qv_v (q_idxRd (m := kx) Try.underlying49 sz3 rfl rfl (by omega) (Reads.row 3 rfl) (by rw [i64s_length]; omega)) ?_
            refine qv_v (q_loadRd Try.underlying3 rfl rfl (Reads.row 3 rfl) (i64s_get hLk)) ?_
            refine qv_end ?_
            refine VL.keep (Sub.cons (s := 0) rfl (Sub.cons (s := 3) rfl (Sub.cons (s := 4) rfl (Sub.cons (s := 5) rfl (Sub.cons (s := 6) rfl (Sub.cons (s := 7) rfl (Sub.cons (s := 11) rfl (Sub.cons (s := 12) rfl (Sub.cons (s := 105) rfl (Sub.cons (s := 112) rfl (Sub.cons (s := 116) rfl (Sub.nil _)))))))))))) ?_
            refine vl_v (q_as (v := .bool false) (q_neq_k Try.underlying3 rfl rfl) (by simp)) rfl ?_
            refine vl_nil ?_
            refine (qn_n (th_n ?_))
            refine VC_no (rfl) ?_
            refine VC_skip ?_
            refine (bl_n (th_n ?_))
            refine VC_region ?_
            refine vl_v (q_move rfl) rfl ?_
            first | (refine vl_v (q_add_n (q := 1) rfl rfl (by omega)) rfl ?_) | (refine vl_v (q_add_i rfl rfl (by omega) (by omega)) rfl ?_)
            refine vl_v (q_assign rfl) rfl ?_
            refine vl_nil ?_
            refine (th_n ?_)
            refine ⟨kx + 1, by omega, by omega, (Sub.cons (s := 0) rfl (Sub.cons (s := 3) rfl (Sub.cons (s := 4) rfl (Sub.cons (s := 5) rfl (Sub.cons (s := 6) rfl (Sub.cons (s := 7) rfl (Sub.cons (s := 11) rfl (Sub.cons (s := 12) rfl (Sub.nil _))))))))), fun w H => H⟩
          · skip
            let z : OSt := ⟨i + 1, m1, A1, c1, ms1, G1, L1, B1, k1⟩
            have hz : z.ok l.length := hz0
            refine VC_exit ?_
            refine (th_x (th_x (bl_xs (bl_n (th_n ?_)))))
            refine VC_region ?_
            refine vl_v (q_move rfl) rfl ?_
            first | (refine vl_v (q_add_n (q := 1) rfl rfl (by omega)) rfl ?_) | (refine vl_v (q_add_i rfl rfl (by omega) (by omega)) rfl ?_)
            refine vl_v (q_assign rfl) rfl ?_
            refine vl_nil ?_
            refine (th_n ?_)
            refine ⟨z, hz, by show l.length - (i + 1) < l.length - i; omega, (Sub.cons (s := 0) rfl (Sub.cons (s := 3) rfl (Sub.cons (s := 4) rfl (Sub.cons (s := 5) rfl (Sub.cons (s := 6) rfl (Sub.cons (s := 7) rfl (Sub.nil _))))))), fun w H => by first | exact dropO H | exact H⟩
    · skip
      refine VC_exit ?_
      refine (th_x (th_x (bl_xs (th_n ?_))))
      refine VC_seq ?_
      refine VC_region ?_
      refine vl_v (q_move rfl) rfl ?_
      refine vl_v (q_assign rfl) rfl ?_
      refine vl_nil ?_
      refine (th_n ?_)
      refine VC_ret ?_
      refine ⟨_, res1 rfl rfl, ?_⟩
      exact rfl
theorem mailboxOrder.walk (w : World) (v0 : Value) (l : List Bool) (h0 : BoolsArg w v0 l) :
    Calls Try.prog 6 #[v0] w fun e w' => e = .returned (.bool true) ∧ Kept [] w w' := by
  obtain ⟨A, c, rfl, hc, hA⟩ := h0
  exact morder_all w l A c hc hA

namespace mailboxOrder
open Go.ChangeShapes Go.WideShapes Go.ChangeAt Go.RowKit
theorem own : ownKnob Try.prog.godebug = none := by kernel_rfl
theorem laidOut : laidOutB Try.prog = true := by kernel_rfl
set_option maxRecDepth 100000 in
theorem lifted (os : Os) (started : os.Started) (H : Type) (enc : TypeId × Value → H) :
    ReturnsInHanded {} Try.checked os 6 .any (Rows.mailboxOrderSpec.pre6 enc Try.prog Try.f6 Rows.mailboxOrderRow.domain false) (Rows.mailboxOrderSpec.post enc Try.prog Try.f6 false true false false) := by
  refine returnsInHanded_of_change (C := Try.checked) own started (by kernel_rfl) Try.func6
    (ChangeSpec.witness6 (enc := enc) (C := Try.checked) false ⟨#[], #[(.slice none 0 0)], []⟩ 8 (by kernel_rfl) (by kernel_rfl) (by kernel_rfl) (by kernel_rfl)) ?_
  intro W base args ds gs before hval0 hW hcnd _
  have hval : ∀ (j : Nat) t v, Try.f6.params[j]? = some t → args[j]? = some v → Value.okWide Try.prog W .any base t v := hval0
  have hW' := hW
  obtain ⟨p, q, hA0, hV, rfl, hfz, hnd⟩ := hW
  have hA : DataW.TrodAll enc Try.prog W 0 (fun _ => true) true Try.f6.params.toList args.toList ds p := hA0
  rw [Try.params6] at hA hval
  obtain ⟨v0, vs0, d0, ds0, p0, q0, hargs, rfl, rfl, h0, r0⟩ := trodAll_cons hA
  obtain ⟨rfl, rfl, rfl⟩ := trodAll_nil r0
  obtain rfl : args = #[v0] := by cases args; simp_all
  obtain ⟨rfl, rfl⟩ := trodVars_none hV
  have k0 := h0
  have lt0 : ∀ x ∈ p0, x.block < W.heap.size := by obtain ⟨m, hm⟩ := k0; exact DataW.trod_lt m _ _ _ hm
  obtain ⟨l0, g0⟩ := open_bools19 Try.underlying50 Try.underlying4 (by kernel_rfl) (hval 0 50 v0 rfl rfl) h0
  clear hA0 hval0
  refine (mailboxOrder.walk W v0 l0 g0).mono fun e W' ⟨he, hK⟩ => ?_
  subst he
  have bel := hK.below
  exact ⟨_, rfl, _, _, _, [], _, [], hW', trodAll_mk1 (shut_bool Try.underlying4 _), (trodAll_cons_mk (Below.trod laidOut (by kernel_rfl) (of_decide_eq_true (by kernel_rfl)) k0 bel lt0) trodAll_mk0), rfl, bel.frame _, fun h => by cases h⟩
theorem over : Rows.mailboxOrderRow.holds Try.pinned (OpenSpec.ofChange Rows.mailboxOrderSpec) :=
  OpenClaim.holds_of_wide 6 Try.f6 rfl rfl rfl rfl rfl rfl rfl ⟨rfl, rfl, rfl, rfl, rfl⟩ rfl rfl rfl rfl rfl (by kernel_rfl) Try.func6 (by kernel_rfl)
    (of_decide_eq_true (by kernel_rfl)) (by unfold Func.isWrapper; first | (rw [if_pos (by decide +kernel)]; kernel_rfl) | (rw [if_neg (by decide +kernel)]; exact ⟨rfl, rfl⟩))
    (fun os started H enc _ => lifted os started H enc)
theorem proved : Rows.MailboxOrderSaid := over
end mailboxOrder
/-- The row. -/
theorem mailboxOrder_holds : Rows.MailboxOrderSaid := mailboxOrder.proved
#print axioms mailboxOrder_holds
end Go.Proofs.Ytadaihpeionniaa
