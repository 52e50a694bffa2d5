/- Words and laws that the proofs of this seat share, part 4 of 4. No condition. -/
import Derived.Test.YtadaihpeionniaaQ19pc
section
namespace Go.PBYtadaihpeionniaa
open Go Go.RowKit
def z19 : List UInt8 := List.replicate 32 0
def X19 : EnvD := ⟨0, 1, z19, z19, 0, 0, []⟩
def s19 : StD := ⟨0, 0, 0, 3, z19, z19⟩
def m19 : Mm := ⟨((1 : Nat) : Int), X19, s19⟩
theorem z19_length : z19.length = 32 := by simp [z19]
theorem m19_ok : m19.ok := ⟨z19_length, z19_length, z19_length, z19_length⟩
theorem put19 : putM [] 0 X19 s19 = ⟨1, 0, [m19], 1⟩ := by
  have h : enR X19 = true := by decide
  unfold putM
  rw [if_neg (by rw [h]; decide), if_neg (by decide)]
  rfl
theorem ack19a : ackM [m19] 1 1 = (0, []) := by
  unfold ackM
  rw [if_neg (by decide), if_pos (by simp [m19])]
  simp [m19]
end Go.PBYtadaihpeionniaa
namespace Go.Proofs.Ytadaihpeionniaa
open Go Go.RowKit Go.PBYtadaihpeionniaa
set_option linter.unusedVariables false
set_option linter.unusedSimpArgs false
set_option maxRecDepth 10000
theorem mids_one {ms : List (Mm × Pl)} {m : Mm} (h : mids ms = [m]) : ∃ x, ms = [(m, x)] := by
  match ms, h with
  | [], h => simp [mids] at h
  | [(a, x)], h => exact ⟨x, by rw [show a = m by simpa [mids] using h]⟩
  | a :: b :: r, h => simp [mids] at h
set_option maxHeartbeats 4000000 in
theorem awake19_calls (w : World) : Calls Try.prog 7 #[] w fun e w' => e = .returned (.bool true) ∧ Kept [] w w' := by
  refine enter (n := 53) (R := fun e L => e = .returned (.bool true)) [] Try.func7 rfl rfl rfl (St.refl w) ?_ (fun e w' L' h H => ⟨h, H.kept⟩)
  refine VC_seq ?_
  refine VC_region ?_
  refine vl_v (q_assign rfl) rfl ?_
  refine vl_nil ?_
  refine (th_n ?_)
  refine VC_seq ?_
  refine VC_region ?_
  refine l_callG Try.func8 rfl rfl rfl (fun w1 H1 => (new_calls w1)) rfl ?_
  intro x6
  refine vl_v (q_assign rfl) rfl ?_
  refine vl_nil ?_
  refine (th_n ?_)
  refine VC_seq ?_
  refine VC_seq ?_
  refine VC_region ?_
  refine vl_v (q_move rfl) rfl ?_
  refine vl_v (q_eqPN Try.underlying24 rfl rfl) rfl ?_
  refine vl_nil ?_
  refine (th_n ?_)
  refine VC_no (rfl) ?_
  refine VC_skip ?_
  refine (th_n ?_)
  refine VC_seq ?_
  refine VC_region ?_
  refine vl_v (q_move rfl) rfl ?_
  refine vl_v (q_build (c' := envOf X19 (none, 0)) rfl (by kernel_rfl)) rfl ?_
  refine vl_v (q_build (c' := stC s19) rfl (by kernel_rfl)) rfl ?_
  refine l_call (F := fun v L' => ∃ A' c' ms' N, v = .tuple #[vN 1, vN 0] ∧ mids ms' = [m19] ∧ L' = BoxR x6 A' c' ms' 1 ++ (N ++ [])) Try.func9 rfl rfl rfl (fun w1 H1 => (put_calls (b := x6) (many := 0) (ms := []) (A := none) (c := 0) (R := []) X19 s19 none 0 z19_length z19_length m19_ok.s (by simp) (by omega) (by decide) (SlAt.nil w none) H1).mono fun e w' h => ?_) rfl ?_
  · obtain ⟨A', c', ms', N, h1, h2, h3, h4⟩ := h
    rw [show mids ([] : List (Mm × Pl)) = [] from rfl, put19] at h1 h2 h4
    exact ⟨_, _, h1, ⟨A', c', ms', N, rfl, h2, rfl⟩, h4⟩
  rintro v L' ⟨A1, c1, ms, N, rfl, hms, rfl⟩
  refine vl_v (q_move rfl) rfl ?_
  refine vl_v (q_ext rfl rfl) rfl ?_
  refine vl_v (q_ext rfl rfl) rfl ?_
  refine vl_v (q_assign rfl) rfl ?_
  refine vl_v (q_assign rfl) rfl ?_
  refine vl_nil ?_
  refine (th_n ?_)
  refine VC_seq ?_
  refine VC_region ?_
  obtain ⟨x, rfl⟩ := mids_one hms
  have hmo1 : ∀ y ∈ [((m19, x) : Mm × Pl)], y.1.ok := fun y hy => by rw [List.mem_singleton.1 hy]; exact m19_ok
  have hL := fun w1 hS hA => list_calls w1 x6 c1 1 A1 [(m19, x)] hmo1 (fun y hy => by rw [List.mem_singleton.1 hy]; show (0 : Nat) ≤ 1000; omega) (by show (1 : Nat) ≤ 8; omega) hS hA (fun y hy => by rw [List.mem_singleton.1 hy]; exact SlAt.nil _ _)
  refine vl_v (q_move rfl) rfl ?_
  refine l_call (F := fun v L' => ∃ B k y N', v = .slice B 1 k ∧ L' = ([.row 52 138 (.slice B 1 k) 1 (mailC m19 y)] ++ N') ++ (BoxR x6 A1 c1 [(m19, x)] 1 ++ (N ++ []))) Try.func14 rfl rfl rfl (fun w1 H1 => (hL w1 (Reads.blk 0 rfl w1 H1) (Reads.row 1 rfl w1 H1)).mono fun e w' h => ?_) rfl ?_
  · obtain ⟨⟨⟨B, k⟩, zs⟩, h1, h2, h3⟩ := h
    obtain ⟨y, rfl⟩ := mids_one h2
    rw [mailsC_one1] at h3
    exact ⟨_, _, h1, ⟨B, k, y, _, rfl, rfl⟩, (H1.join h3).perm List.perm_append_comm⟩
  rintro v L' ⟨B, k, y, N', rfl, rfl⟩
  refine vl_v (q_assign rfl) rfl ?_
  refine vl_nil ?_
  refine (th_n ?_)
  refine VC_seq ?_
  refine VC_region ?_
  refine vl_v (q_move rfl) rfl ?_
  refine l_call (F := fun v L' => ∃ A' c', v = vN 0 ∧ L' = BoxR x6 A' c' [] 1 ++ ((N ++ []) ++ ([.row 52 138 (.slice B 1 k) 1 (mailC m19 y)] ++ N'))) Try.func11 rfl rfl rfl (fun w1 H1 => (ack_calls (b := x6) (many := 1) (ms := [(m19, x)]) 1 (by decide) hmo1 (by show (1 : Nat) ≤ 8; omega) (by have h9 := H1.perm List.perm_append_comm; rw [List.append_assoc] at h9; exact h9)).mono fun e w' h => ?_) rfl ?_
  · obtain ⟨A', c', ms', h1, h2, h3, h4⟩ := h
    rw [show mids [((m19, x) : Mm × Pl)] = [m19] from rfl, ack19a] at h1 h2
    obtain rfl : ms' = [] := by cases ms' with | nil => rfl | cons a r => simp [mids] at h2
    exact ⟨_, _, h1, ⟨A', c', rfl, rfl⟩, h4⟩
  rintro v L' ⟨A2, c2, rfl, rfl⟩
  refine vl_v (q_assign rfl) rfl ?_
  refine vl_nil ?_
  refine (th_n ?_)
  refine VC_seq ?_
  refine VC_region ?_
  have hg : (mailC m19 y)[0 * 138 + 70 + 3]? = some (vN 3) := rfl
  refine vl_v (q_move rfl) rfl ?_
  refine vl_v (q_true (q_eql_n (q := 1) Try.underlying3 rfl rfl) (decide_eq_true rfl)) rfl ?_
  refine vl_v (q_move rfl) rfl ?_
  refine vl_vg rfl (q_move rfl) rfl ?_
  refine vl_vg rfl (q_true (q_eql_n (q := 0) Try.underlying41 rfl rfl) (decide_eq_true rfl)) rfl ?_
  refine vl_v (q_pickT rfl rfl) rfl ?_
  refine vl_v (q_move rfl) rfl ?_
  refine vl_vg rfl (q_move rfl) rfl ?_
  refine vl_vg rfl (q_lenS Try.underlying46 rfl) rfl ?_
  refine vl_vg rfl (q_true (q_eql_n (q := 1) Try.underlying3 rfl rfl) (decide_eq_true rfl)) rfl ?_
  refine vl_v (q_pickT rfl rfl) rfl ?_
  refine vl_v (q_move rfl) rfl ?_
  refine vl_vg rfl (q_move rfl) rfl ?_
  refine vl_vg rfl (q_idxRdN (m := 0) Try.underlying46 sz52 rfl rfl (by decide) (fun w' H' => Row.sl (H'.ok (.row 52 138 (.slice B 1 k) 1 (mailC m19 y)) (by simp))) (by rw [show (mailC m19 y).length = 138 from mailV_length m19_ok]; omega)) rfl ?_
  refine vl_vg rfl (q_fldRd fo52_2 (by decide) rfl rfl) rfl ?_
  refine vl_vg rfl (q_fldRd fo38_3 (by decide) rfl rfl) rfl ?_
  refine vl_vg rfl (q_loadRd Try.underlying3 rfl rfl (fun w' H' => Row.sl (H'.ok (.row 52 138 (.slice B 1 k) 1 (mailC m19 y)) (by simp))) hg) rfl ?_
  refine vl_vg rfl (q_true (q_eql_n (q := 3) Try.underlying3 rfl rfl) (decide_eq_true rfl)) rfl ?_
  refine vl_v (q_pickT rfl rfl) rfl ?_
  refine vl_v (q_move rfl) rfl ?_
  refine vl_vg rfl (q_move rfl) rfl ?_
  refine vl_vg rfl (q_true (q_eql_n (q := 0) Try.underlying41 rfl rfl) (decide_eq_true rfl)) rfl ?_
  refine vl_v (q_pickT rfl rfl) rfl ?_
  refine vl_v (q_move rfl) rfl ?_
  refine vl_vg rfl (q_move rfl) rfl ?_
  refine vl_vg rfl (q_callV Try.func11 rfl rfl rfl (fun w1 H1 => qack_old w1 x6 c2 1 A2 1 (Reads.blk 0 rfl w1 H1) (by omega) (by omega))) rfl ?_
  refine vl_vg rfl (q_true (q_eql_k (q := 5) Try.underlying41 rfl rfl) (decide_eq_true rfl)) rfl ?_
  refine vl_v (q_pickT rfl rfl) rfl ?_
  refine vl_v (q_move rfl) rfl ?_
  refine vl_vg rfl (q_move rfl) rfl ?_
  refine vl_vg rfl (q_callV Try.func11 rfl rfl rfl (fun w1 H1 => qack_high w1 x6 c2 1 A2 2 (Reads.blk 0 rfl w1 H1) (by omega) (by omega))) rfl ?_
  refine vl_vg rfl (q_true (q_eql_k (q := 7) Try.underlying41 rfl rfl) (decide_eq_true rfl)) rfl ?_
  refine vl_v (q_pickT rfl rfl) rfl ?_
  refine vl_v (q_assign rfl) rfl ?_
  refine vl_nil ?_
  refine (th_n ?_)
  refine VC_ret ?_
  refine ⟨_, res1 rfl rfl, ?_⟩
  exact rfl
end Go.Proofs.Ytadaihpeionniaa
end
section
namespace Go.PBYtadaihpeionniaa
open Go Go.RowKit Go.ChangeShapes Go.WideShapes Go.ChangeAt Go.Deep
set_option linter.unusedSimpArgs false
set_option linter.unusedVariables false
theorem open_elems {H : Type} {enc : TypeId × Value → H} {P : Program} {w : World} {r : Reach} {b0 : Nat} {t e : TypeId} {v : Value} {d : DataW H} {p : List MemPlace} {sz : Nat} {Q : List Value → Prop} (ht : P.underlying t = some (.slice e)) (hq : ∀ (n : Nat) (cs : List Value) (y : DataW H × List MemPlace), DataW.trod enc P w 0 (fun _ => true) true n e cs = some y → Q cs ∧ cs.length = sz) (hc : P.cellsOf e = sz) (hz : 0 < sz)
    (hv : Value.okWide P w r b0 t v) (h : DataW.Trod enc P w 0 (fun _ => true) true t v d p) : ∃ vs, FsArg w v vs ∧ ∀ u ∈ vs, Q u := by
  obtain ⟨a, len, cap, rfl⟩ := okWide_slice ht hv
  obtain ⟨fuel, hh⟩ := h
  rcases open_slice ht hh with ⟨hcs, _⟩ | ⟨x, l, c, m', n, D, Pl, hcs, _, hl, hm, hmm, _, hx⟩
  · simp [Value.cells] at hcs
    obtain ⟨rfl, rfl, rfl⟩ := hcs
    exact ⟨[], ⟨none, 0, rfl, Nat.le_refl _, by omega, SlAt.nil _ _⟩, by simp⟩
  · simp [Value.cells] at hcs
    obtain ⟨rfl, rfl, rfl⟩ := hcs
    simp only [if_true] at hmm
    subst hmm
    obtain ⟨V, hV⟩ := choose_lt (α := List Value) (n := m') (p := fun i cs' => w.cells? 0 (x.add (i * P.cellsOf e)) (P.cellsOf e) = some cs' ∧ DataW.trod enc P w 0 (fun _ => true) true n e cs' = some (D i, Pl i)) (fun i hi => hx i hi)
    have hfit : ∀ i, i < len → Q (V i) ∧ (V i).length = sz := fun i hi => hq n _ _ (hV i (by omega)).2
    refine ⟨(List.range len).map V, ⟨some x, m', by simp, by simpa using hl, by simpa [maxLen] using hm, ?_⟩, ?_⟩
    · intro j v hj
      obtain ⟨u, h1, h2⟩ := flatten_get hz _ (fun u hu => by
        obtain ⟨i, hi, rfl⟩ := List.mem_map.1 hu
        exact (hfit i (List.mem_range.1 hi)).2) j v hj
      rw [List.getElem?_map] at h1
      cases hr : (List.range len)[j / sz]? with
      | none => rw [hr] at h1; simp at h1
      | some i =>
        rw [hr] at h1
        have hil := (List.getElem?_eq_some_iff.1 hr).1
        rw [List.length_range] at hil
        rw [List.getElem?_range hil] at hr
        simp only [Option.some.injEq] at hr
        subst hr
        simp only [Option.map_some, Option.some.injEq] at h1
        subst h1
        obtain ⟨_, hlen, hcell⟩ := World.cells?_some (hV (j / sz) (by omega)).1
        have h3 := hcell (j % sz) (by rw [hc]; exact Nat.mod_lt _ hz)
        refine ⟨x, rfl, ?_⟩
        rw [hc] at h3
        rw [Addr.add_add' _ _ _ (.inr (.inr trivial)), show j / sz * sz + j % sz = j by rw [Nat.mul_comm]; exact Nat.div_add_mod j _] at h3
        rw [h3, h2]
    · intro u hu
      obtain ⟨i, hi, rfl⟩ := List.mem_map.1 hu
      exact (hfit i (List.mem_range.1 hi)).1
end Go.PBYtadaihpeionniaa
end
section
namespace Go.PBYtadaihpeionniaa
open Go Go.RowKit
structure OpM where
  d : Int
  id : Int
  X : EnvD
  x : Pl
  s : StD
def OpM.cells (o : OpM) : List Value := [vI o.d, vI o.id] ++ (envOf o.X o.x ++ stC o.s)
structure OpM.ok (w : World) (o : OpM) : Prop where
  d : (Lit.int .i64 o.d).wf = true
  id : (Lit.int .i64 o.id).wf = true
  cm : o.X.cm.length = 32
  pub : o.X.pub.length = 32
  s : o.s.ok
  h : Fits (headC o.X.pub o.X.p o.X.q) (List.replicate 32 .u8 ++ [.i64, .i64])
  fs : Fits (stC o.s) kStamp
  c : o.X.body.length ≤ o.x.2
  b : SlAt w o.x.1 (bys o.X.body)
end Go.PBYtadaihpeionniaa
namespace Go.Proofs.Ytadaihpeionniaa
open Go.RowKit Go.PBYtadaihpeionniaa
set_option linter.unusedVariables false
set_option linter.unusedSimpArgs false
set_option maxRecDepth 100000
theorem open_stamp {cs : List Value} (h : Fits cs kStamp) : ∃ s : StD, s.ok ∧ cs = stC s := by
  obtain ⟨a, r, rfl, fa, fr⟩ := Fits.split (k := [.i64, .i64, .i64, .i64]) h
  obtain ⟨b, c, rfl, fb, fc⟩ := Fits.split (k := List.replicate 32 .u8) fr
  obtain ⟨a0, a', rfl, f0, fa⟩ := Fits.split (k := [.i64]) (l := [.i64, .i64, .i64]) fa
  obtain ⟨a1, a', rfl, f1, fa⟩ := Fits.split (k := [.i64]) (l := [.i64, .i64]) fa
  obtain ⟨a2, a3, rfl, f2, f3⟩ := Fits.split (k := [.i64]) (l := [.i64]) fa
  obtain ⟨x0, rfl, _⟩ := f0.one
  obtain ⟨x1, rfl, _⟩ := f1.one
  obtain ⟨x2, rfl, _⟩ := f2.one
  obtain ⟨x3, rfl, _⟩ := f3.one
  obtain ⟨p, hp, rfl⟩ := fb.bytes
  obtain ⟨q, hq, rfl⟩ := fc.bytes
  exact ⟨⟨x0, x1, x2, x3, p, q⟩, ⟨hp, hq⟩, rfl⟩
theorem parts4 (cs : List Value) (h : cs.length = 139) : cs = (cs.drop 0).take 1 ++ ((cs.drop 1).take 1 ++ ((cs.drop 2).take 69 ++ (cs.drop 71).take 68)) := by
  have e3 : (cs.drop 71).take 68 = cs.drop 71 := List.take_of_length_le (by simp; omega)
  have e2 : (cs.drop 2).take 69 ++ cs.drop 71 = cs.drop 2 := by rw [show cs.drop 71 = (cs.drop 2).drop 69 by rw [List.drop_drop]]; exact List.take_append_drop _ _
  have e1 : (cs.drop 1).take 1 ++ cs.drop 2 = cs.drop 1 := by rw [show cs.drop 2 = (cs.drop 1).drop 1 by rw [List.drop_drop]]; exact List.take_append_drop _ _
  rw [e3, e2, e1, List.drop_zero]
  exact (List.take_append_drop 1 cs).symm
theorem open_envC {H : Type} {enc : TypeId × Value → H} {w : World} {n : Nat} {cs : List Value} {y : DataW H × List MemPlace} (h : DataW.trod enc Try.prog w 0 (fun _ => true) true n 36 cs = some y) :
    ∃ (X : EnvD) (x : Pl), cs = envOf X x ∧ X.cm.length = 32 ∧ X.pub.length = 32 ∧ Fits (headC X.pub X.p X.q) (List.replicate 32 .u8 ++ [.i64, .i64]) ∧ X.body.length ≤ x.2 ∧ SlAt w x.1 (bys X.body) := by
  obtain ⟨hl, m, hf⟩ := trod_field Try.underlying36 h
  have hl : cs.length = 69 := by rw [hl]; kernel_rfl
  obtain ⟨y0, h0⟩ : ∃ y, DataW.trod enc Try.prog w 0 (fun _ => true) true m 3 ((cs.drop 0).take 1) = some y := hf _ List.mem_cons_self
  obtain ⟨y1, h1⟩ : ∃ y, DataW.trod enc Try.prog w 0 (fun _ => true) true m 3 ((cs.drop 1).take 1) = some y := hf _ ((List.mem_cons_of_mem _ List.mem_cons_self))
  obtain ⟨y2, h2⟩ : ∃ y, DataW.trod enc Try.prog w 0 (fun _ => true) true m 31 ((cs.drop 2).take 32) = some y := hf _ ((List.mem_cons_of_mem _ (List.mem_cons_of_mem _ List.mem_cons_self)))
  obtain ⟨y3, h3⟩ : ∃ y, DataW.trod enc Try.prog w 0 (fun _ => true) true m 33 ((cs.drop 34).take 34) = some y := hf _ ((List.mem_cons_of_mem _ (List.mem_cons_of_mem _ (List.mem_cons_of_mem _ List.mem_cons_self))))
  obtain ⟨y4, h4⟩ : ∃ y, DataW.trod enc Try.prog w 0 (fun _ => true) true m 34 ((cs.drop 68).take 1) = some y := hf _ ((List.mem_cons_of_mem _ (List.mem_cons_of_mem _ (List.mem_cons_of_mem _ (List.mem_cons_of_mem _ List.mem_cons_self)))))
  have hp := parts5 cs hl
  obtain ⟨f, e0, _⟩ := (trod_int1 Try.underlying3 h0).one
  obtain ⟨t, e1, _⟩ := (trod_int1 Try.underlying3 h1).one
  obtain ⟨cm, hcm, e2⟩ := (trod_fits (P := Try.prog) 6 31 (List.replicate 32 .u8) (by kernel_rfl) _ _ _ h2).bytes
  have hff := trod_fits (P := Try.prog) 6 33 (List.replicate 32 .u8 ++ [.i64, .i64]) (by kernel_rfl) _ _ _ h3
  obtain ⟨⟨pub, p, q⟩, e3, hpub⟩ := open_head hff
  obtain ⟨body, B, k, c, e4, hn, hnc, hc, hB⟩ := open_cell Try.underlying34 Try.underlying5 (by kernel_rfl) h4
  have e3' : (cs.drop 34).take 34 = headC pub p q := by simpa using e3
  rw [e0, e1, e2, e3', e4] at hp
  subst hn
  refine ⟨⟨f, t, cm, pub, p, q, body⟩, (B, c), ?_, hcm, hpub, e3' ▸ hff, hnc, hB⟩
  rw [hp]
  simp [envC]
theorem open_op19 {H : Type} {enc : TypeId × Value → H} {w : World} {n : Nat} {cs : List Value} {y : DataW H × List MemPlace} (h : DataW.trod enc Try.prog w 0 (fun _ => true) true n 40 cs = some y) : (∃ o : OpM, o.ok w ∧ cs = o.cells) ∧ cs.length = 139 := by
  obtain ⟨hl, m, hf⟩ := trod_field Try.underlying40 h
  have hl : cs.length = 139 := by rw [hl]; kernel_rfl
  obtain ⟨y0, h0⟩ : ∃ y, DataW.trod enc Try.prog w 0 (fun _ => true) true m 3 ((cs.drop 0).take 1) = some y := hf _ List.mem_cons_self
  obtain ⟨y1, h1⟩ : ∃ y, DataW.trod enc Try.prog w 0 (fun _ => true) true m 3 ((cs.drop 1).take 1) = some y := hf _ ((List.mem_cons_of_mem _ List.mem_cons_self))
  obtain ⟨y2, h2⟩ : ∃ y, DataW.trod enc Try.prog w 0 (fun _ => true) true m 36 ((cs.drop 2).take 69) = some y := hf _ ((List.mem_cons_of_mem _ (List.mem_cons_of_mem _ List.mem_cons_self)))
  obtain ⟨y3, h3⟩ : ∃ y, DataW.trod enc Try.prog w 0 (fun _ => true) true m 38 ((cs.drop 71).take 68) = some y := hf _ ((List.mem_cons_of_mem _ (List.mem_cons_of_mem _ (List.mem_cons_of_mem _ List.mem_cons_self))))
  have hp := parts4 cs hl
  obtain ⟨d, e0, hd⟩ := (trod_int1 Try.underlying3 h0).one
  obtain ⟨id, e1, hi⟩ := (trod_int1 Try.underlying3 h1).one
  obtain ⟨X, x, e2, a1, a2, a3, a4, a5⟩ := open_envC h2
  have hff := trod_fits (P := Try.prog) 6 38 kStamp (by kernel_rfl) _ _ _ h3
  obtain ⟨s, hs, e3⟩ := open_stamp hff
  rw [e0, e1, e2, e3] at hp
  exact ⟨⟨⟨d, id, X, x, s⟩, ⟨hd, hi, a1, a2, hs, a3, e3 ▸ hff, a4, a5⟩, by rw [hp]; rfl⟩, hl⟩
def opsM (xs : List OpM) : List Value := (xs.map OpM.cells).flatten
def Ops19 (w : World) (v : Value) (xs : List OpM) : Prop := ∃ A c, v = .slice A xs.length c ∧ xs.length ≤ c ∧ SlAt w A (opsM xs) ∧ ∀ o ∈ xs, o.ok w
theorem ops19_of {w : World} : ∀ (vs : List (List Value)), (∀ u ∈ vs, ∃ o : OpM, o.ok w ∧ u = o.cells) → ∃ xs : List OpM, vs = xs.map OpM.cells ∧ ∀ o ∈ xs, o.ok w
  | [], _ => ⟨[], rfl, by simp⟩
  | v :: r, h => by
    obtain ⟨x, hx, rfl⟩ := h v (by simp)
    obtain ⟨xs, rfl, hxs⟩ := ops19_of r (fun u hu => h u (by simp [hu]))
    exact ⟨x :: xs, rfl, by intro y hy; exact (List.mem_cons.1 hy).elim (fun h => h ▸ hx) (fun h => hxs y h)⟩
theorem open_ops19 {H : Type} {enc : TypeId × Value → H} {w : World} {r : Reach} {b0 : Nat} {v : Value} {d : DataW H} {p : List MemPlace} (hv : Value.okWide Try.prog w r b0 22 v) (h : DataW.Trod enc Try.prog w 0 (fun _ => true) true 22 v d p) : ∃ xs, Ops19 w v xs := by
  obtain ⟨vs, ⟨A, c, h1, h2, _, h3⟩, h4⟩ := open_elems (sz := 139) (Q := fun cs => ∃ o : OpM, o.ok w ∧ cs = o.cells) Try.underlying22 (fun n cs y h => open_op19 h) (by kernel_rfl) (by decide) hv h
  obtain ⟨xs, rfl, hx⟩ := ops19_of vs h4
  rw [List.length_map] at h1 h2
  exact ⟨xs, A, c, h1, h2, h3, hx⟩
theorem OpM.cells_length {w : World} {o : OpM} (h : o.ok w) : o.cells.length = 139 := by
  rw [OpM.cells, List.length_append, List.length_append, (envC_f h.cm h.pub).len, stC_length h.s]; rfl
theorem opsM_length {w : World} {xs : List OpM} (h : ∀ o ∈ xs, o.ok w) : (opsM xs).length = xs.length * 139 := by
  unfold opsM
  rw [flatten_length (sz := 139) _ (fun u hu => by obtain ⟨x, hx, rfl⟩ := List.mem_map.1 hu; exact OpM.cells_length (h x hx)), List.length_map]
theorem opsM_part {w : World} {xs : List OpM} {j : Nat} {o : OpM} (h : ∀ o ∈ xs, o.ok w) (hj : xs[j]? = some o) : ((opsM xs).drop (j * 139)).take 139 = o.cells := by
  have hl := (List.getElem?_eq_some_iff.1 hj).1
  have := flatten_part (sz := 139) (xs.map OpM.cells) j (fun u hu => by obtain ⟨x, hx, rfl⟩ := List.mem_map.1 hu; exact OpM.cells_length (h x hx)) (by simpa using hl)
  unfold opsM
  rw [this, List.getD_eq_getElem?_getD, List.getElem?_map, hj]
  rfl
theorem OpM.cells_one {o : OpM} : ∀ u ∈ o.cells, u.oneCell' = true := by
  intro u hu
  rcases List.mem_append.1 hu with h | h
  · exact one_all rfl u h
  · rcases List.mem_append.1 h with h | h
    · exact envC_one rfl u h
    · exact stC_one u h
structure OpMF (cs : List Value) (o : OpM) : Prop where
  g0 : cs[0]? = some (vI o.d)
  g1 : cs[1]? = some (vI o.id)
  g2 : (cs.drop 2).take 69 = envOf o.X o.x
  g3 : (cs.drop 71).take 68 = stC o.s
  g4 : cs[70]? = some (.slice o.x.1 o.X.body.length o.x.2)
theorem opM_f {w : World} {o : OpM} (h : o.ok w) : OpMF o.cells o := by
  have le : (envOf o.X o.x).length = 69 := (envC_f h.cm h.pub).len
  refine ⟨rfl, rfl, ?_, ?_, ?_⟩
  · show (envOf o.X o.x ++ stC o.s).take 69 = _
    rw [List.take_left' le]
  · show ((envOf o.X o.x ++ stC o.s).drop 69).take 68 = _
    rw [List.drop_left' le]
    exact List.take_of_length_le (by rw [stC_length h.s]; omega)
  · show (envOf o.X o.x ++ stC o.s)[68]? = _
    rw [List.getElem?_append_left (by rw [le]; omega)]
    exact (envC_f h.cm h.pub).g4
end Go.Proofs.Ytadaihpeionniaa
end
section
namespace Go.Proofs.Ytadaihpeionniaa
open Go.RowKit Go.PBYtadaihpeionniaa
set_option linter.unusedVariables false
def decP (v : Value) : Pl := match v with
  | .slice A _ c => (A, c)
  | _ => (none, 0)
def decM (M : List Mm) (v : Value) : Pl × List (Mm × Pl) := match v with
  | .agg cs => match cs.toList with
    | a :: r => (decP a, M.zip (r.map decP))
    | [] => ((none, 0), [])
  | _ => ((none, 0), [])
theorem bm_ghost (x : Pl) (ms : List (Mm × Pl)) : ∃ g : Value, decM (mids ms) g = (x, ms) := by
  refine ⟨.agg (Value.slice x.1 0 x.2 :: ms.map fun y => Value.slice y.2.1 0 y.2.2).toArray, ?_⟩
  simp only [decM, decP, List.map_map]
  congr 1
  induction ms with
  | nil => rfl
  | cons y r ih => simp only [mids, List.map_cons, List.zip_cons_cons] at ih ⊢; rw [ih]; rfl
theorem rest_ok {S : List Nat} {w0 w w' : World} {X F L : List Res} (H : St S w0 (X ++ F) w) (H' : St (ats X) w L w') : ∀ r ∈ F, r.ok w' := by
  intro r hr
  refine Res.of_eq (H.ok r (List.mem_append_right _ hr)) fun b hb => H'.kept.block b (Res.lt (H.ok r (List.mem_append_right _ hr)) hb) fun hm => ?_
  obtain ⟨x, hx, h⟩ := List.mem_filterMap.1 hm
  exact (List.pairwise_append.1 H.apart).2.2 x hx r hr b h hb
theorem bods_mem {zs : List (Mm × Pl)} {y : Mm × Pl} (h : y ∈ zs) : bodyR 5 y.1.X.body y.2 ∈ bods zs := List.mem_reverse.2 (List.mem_map.2 ⟨y, h, rfl⟩)
end Go.Proofs.Ytadaihpeionniaa
end
section
namespace Go.Proofs.Ytadaihpeionniaa
open Go Go.RowKit Go.PBYtadaihpeionniaa
set_option linter.unusedVariables false
set_option linter.unusedSimpArgs false
def Mm.good (m : Mm) : Prop := m.ok ∧ m.fit ∧ m.X.body.length ≤ 1000
theorem putM_ok {M : List Mm} {many : Nat} {X : EnvD} {s : StD} (hM : ∀ m ∈ M, Mm.good m) (h8 : M.length ≤ 8) (hn : ∀ id, Mm.good ⟨id, X, s⟩) : (∀ m ∈ (putM M many X s).l, Mm.good m) ∧ (putM M many X s).l.length ≤ 8 ∧ (putM M many X s).many ≤ many + 1 := by
  unfold putM
  split
  · exact ⟨hM, h8, Nat.le_succ _⟩
  · split
    · exact ⟨hM, h8, Nat.le_succ _⟩
    · refine ⟨fun m hm => ?_, ?_, Nat.le_refl _⟩
      · rcases List.mem_append.1 hm with h | h
        · exact hM m h
        · exact List.mem_singleton.1 h ▸ hn _
      · show (M ++ [_]).length ≤ 8
        rw [List.length_append, List.length_singleton]; omega
theorem ackM_ok {M : List Mm} {many : Nat} {id : Int} (hM : ∀ m ∈ M, Mm.good m) (h8 : M.length ≤ 8) : (∀ m ∈ (ackM M many id).2, Mm.good m) ∧ (ackM M many id).2.length ≤ 8 := by
  unfold ackM
  split
  · exact ⟨hM, h8⟩
  · split
    · exact ⟨fun m hm => hM m (List.mem_of_mem_eraseP hm), Nat.le_trans (List.length_eraseP_le) h8⟩
    · exact ⟨hM, h8⟩
/-- the bodies of ms are read out of G -/
def Bods (G : List Res) (ms : List (Mm × Pl)) : Prop := ∀ w : World, (∀ g ∈ G, g.ok w) → ∀ y ∈ ms, SlAt w y.2.1 (bys y.1.X.body)
theorem Bods.more {G : List Res} {ms : List (Mm × Pl)} (N : List Res) (h : Bods G ms) : Bods (N ++ G) ms := fun w hw y hy => h w (fun g hg => hw g (List.mem_append_right _ hg)) y hy
theorem Bods.new {G N : List Res} {ms ns : List (Mm × Pl)} (h : Bods G ms) (hF : Fresh N ms ns) : Bods (N ++ G) ns := fun w hw y hy => by
  rcases hF w (fun g hg => hw g (List.mem_append_left _ hg)) y hy with h1 | h1
  · exact h.more N w hw y h1
  · exact h1
theorem Bods.less {G : List Res} {ms ns : List (Mm × Pl)} (h : Bods G ms) (hs : ∀ y ∈ ns, y ∈ ms) : Bods G ns := fun w hw y hy => h w hw y (hs y hy)
theorem good_mids {ms : List (Mm × Pl)} {M : List Mm} (h : mids ms = M) (hM : ∀ m ∈ M, Mm.good m) : ∀ y ∈ ms, Mm.good y.1 := fun y hy => hM _ (h ▸ List.mem_map.2 ⟨y, hy, rfl⟩)
theorem mids_good {ms : List (Mm × Pl)} (h : ∀ y ∈ ms, Mm.good y.1) : ∀ m ∈ mids ms, Mm.good m := fun m hm => by
  obtain ⟨y, hy, rfl⟩ := List.mem_map.1 hm
  exact h y hy
theorem mvN (X N Y G : List Res) : (X ++ (N ++ (Y ++ G))).Perm (X ++ (Y ++ (N ++ G))) := List.Perm.append_left X (List.perm_append_comm_assoc _ _ _)
theorem mvZ (X Y Z : List Res) : ((X ++ Y) ++ Z).Perm ((X ++ Z) ++ Y) := by
  rw [List.append_assoc, List.append_assoc]
  exact List.Perm.append_left X List.perm_append_comm
/-- where a turn stands -/
structure PSt where
  i : Nat
  many : Nat
  A : Option Addr
  c : Nat
  ms : List (Mm × Pl)
  B : Option Addr
  k : Nat
  r : Res
  ns : List (Mm × Pl)
  G : List Res
structure PSt.ok (n : Nat) (x : PSt) : Prop where
  le : x.i ≤ n
  my : x.many ≤ x.i
  eq : mids x.ms = mids x.ns
  ok : ∀ y ∈ x.ms, Mm.good y.1
  l8 : x.ms.length ≤ 8
  hr : ∀ w'', x.r.ok w'' → SlAt w'' x.B (mailsC x.ns)
  hk : x.ns.length ≤ x.k
  g1 : Bods x.G x.ms
  g2 : Bods x.G x.ns
def RPS (b br : Nat) (x : PSt) : List Res := BoxR b x.A x.c x.ms x.many ++ (DocB br x.B x.k x.r x.ns x.many ++ x.G)
theorem drop19 {S : List Nat} {w0 w : World} {a b c d e f : Res} {B G : List Res} (H : St S w0 ((a :: b :: c :: d :: e :: f :: B) ++ G) w) : St S w0 (c :: d :: a :: b :: G) w := by
  have h1 : (a :: b :: c :: d :: G).Sublist ((a :: b :: c :: d :: e :: f :: B) ++ G) := by
    refine List.Sublist.cons_cons _ (List.Sublist.cons_cons _ (List.Sublist.cons_cons _ (List.Sublist.cons_cons _ ?_)))
    exact List.sublist_append_right (e :: f :: B) G
  refine (H.sub h1).perm ?_
  show ([a, b] ++ ([c, d] ++ G)).Perm ([c, d] ++ ([a, b] ++ G))
  exact List.perm_append_comm_assoc _ _ _
end Go.Proofs.Ytadaihpeionniaa
end
