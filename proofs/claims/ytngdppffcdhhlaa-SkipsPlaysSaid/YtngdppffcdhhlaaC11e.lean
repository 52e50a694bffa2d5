/- What the functions of package skips do: another store that keeps the same. Conditions: at most eight are kept. -/
import Derived.Test.YtngdppffcdhhlaaA11
import Derived.Laws.Externs
import Derived.Laws.Cover3
import Derived.MapKept
namespace Go.PBYtngdppffcdhhlaa
open Go Go.RowKit
set_option linter.unusedVariables false
section
variable {P : Program}
theorem run_eqMN {t k e : TypeId} {m : Nat} (h : P.underlying t = some (.map k e)) (w : World) : (binOp .eql t (.map (some m)) (.map none)).run P w = .ok (.bool false) w := by
  simp only [binOp]
  simp [run_equal_map_nil w t k e (some m) h]
theorem run_taM {t xT k e : TypeId} {v : Value} (h : P.underlying t = some (.map k e)) (w : World) : (Instr.typeAssert (.iface t v) xT t false).run P w = .ok v w := by
  simp [Instr.typeAssert, run_underlying h, go_sem, Result.andThen]
theorem run_mclone {r : Nat} {es : Array MapEntry} {clock : Nat} (t : TypeId) {w : World} (hb : w.heap[r]? = some (.map es clock)) :
    (Extern.MapsClone.clone #[.iface t (.map (some r))]).run P w = .ok (.iface t (.map (some w.heap.size))) (w.alloc (.map es clock)) := by
  have e : Extern.MapsClone.clone #[.iface t (.map (some r))] = (getObj r >>= fun o => match o with
      | .map entries clock => (newObj (.map entries clock) >>= fun n => pure (.iface t (.map (some n))))
      | _ => stuck "maps.clone: a map expected") := rfl
  rw [e]
  simp [MapKept.run_getObj_map hb, Result.andThen, go_sem]
end
section
variable {P : Program} {n : Nat} {S : List Nat} {w0 : World} {d : Tmp} {ty : TypeId} {pos : String} {af : Array Edge} {g : Option (Nat × Bool)} {env : Env} {L : List Res}
def nObj (o : Obj) (v : Value) : List Res := match v with | .map (some m) => [.obj m o] | _ => []
theorem q_callM {f : FuncId} {fn : Func} {xs : Array Operand} {ats : Array TypeId} {args : List Value} {o : Obj} (hf : P.funcs[f]? = some fn) (hb : fn.body.isSome = true) (hn : (fn.name == "runtime.NumGoroutine") = false) (hx : evalsE env xs.toList = some args)
    (hc : ∀ w, St S w0 L w → Calls P f args.toArray w (fun e w' => ∃ m, e = .returned (.map (some m)) ∧ St [] w [.obj m o] w')) :
    QT P n S w0 { dst := some d, op := .call { callee := .value (.func f), args := xs, argTypes := ats }, type := ty, pos, after := af, guard := g } env L (.any (fun v => ∃ m, v = .map (some m)) (nObj o)) :=
  q_call (s := .any (fun v => ∃ m, v = .map (some m)) (nObj o)) hf hb hn hx fun w H => (hc w H).mono fun e w' ⟨m, h1, h2⟩ => ⟨_, h1, ⟨m, rfl⟩, h2⟩
theorem q_eqSN {T T' e : TypeId} {x y : Operand} {A : Option Addr} {l c : Nat} (hT : P.underlying T = some (.slice e)) (hx : evalE env x = some (.slice A l c)) (hy : evalE env y = some (.slice none 0 0)) :
    QT P n S w0 { dst := some d, op := .binOp .eql T x y T', type := ty, pos, after := af, guard := g } env L (.val (.bool A.isNone)) :=
  q_bin hx hy fun w => by
    have h1 := run_equal_slice_nil w T e A l c hT
    have h2 : eqGuard .eql T x y (.slice A l c) (.slice none 0 0) = pure () := rfl
    have h3 : binOp .eql T (.slice A l c) (.slice none 0 0) = (do pure (.bool (← Op.equal T (.slice A l c) (.slice none 0 0)))) := by cases A <;> rfl
    rw [h2, h3]
    simp [h1]
end
end Go.PBYtngdppffcdhhlaa
namespace Go.Proofs.Ytngdppffcdhhlaa
open Go.RowKit Go.PBYtngdppffcdhhlaa
set_option linter.unusedVariables false
set_option linter.unusedSimpArgs false
set_option maxRecDepth 10000

set_option maxHeartbeats 1000000 in
theorem mclone_w (b : Nat) (es : Array MapEntry) (clock : Nat) (w : World) (hb : w.heap[b]? = some (.map es clock)) :
    Calls Try.prog 18 #[.map (some b)] w fun e w' => e = .returned (.map (some w.heap.size)) ∧ w' = w.alloc (.map es clock) := by
  have hq := fun w => run_eqMN (P := Try.prog) (m := b) Try.underlying46 w
  go_enter Try.func18, Try.ntmps18
  go_wp2
  rw [run_callFunc_extern Try.func22 (by kernel_rfl) (by kernel_rfl) (by kernel_rfl) (e := Extern.MapsClone.clone) (by kernel_rfl), run_mclone 46 hb]
  simp only [Result.andThen]
  rw [Oper.upon_value]
  go_wp2
  rw [run_taM Try.underlying46]
  simp only [Result.andThen]
  rw [Oper.upon_value]
  go_wp2
  go_ret
  exact ⟨rfl, rfl⟩
theorem mclone_calls (b : Nat) (o : Obj) (E : List (Value × Value)) (hE : MapOf o E) (w : World) (ho : w.heap[b]? = some o) :
    Calls Try.prog 18 #[.map (some b)] w fun e w' => ∃ m, e = .returned (.map (some m)) ∧ St [] w [.obj m o] w' := by
  obtain ⟨es, clock, rfl, _⟩ := hE
  refine (mclone_w b es clock w ho).mono ?_
  rintro e w' ⟨h1, rfl⟩
  exact ⟨_, h1, (St.refl w).add (World.grownBy_alloc w _ none) (heap_alloc_new w (.map es clock)) (by simp [Res.at])⟩
set_option maxHeartbeats 1000000 in
theorem sclone_some (L : List Ent) (A : Addr) (c : Nat) (hG : GoodL L) (hl : L.length ≤ 1000) (w : World) (hA : SlAt w (some A) (ordC L)) :
    Calls Try.prog 19 #[.slice (some A) L.length c] w fun e w' => ∃ v, e = .returned v ∧ St [] w [.row 51 33 v L.length (ordC L)] w' := by
  have hoc := ordC_length hG.ok
  have ooc : ∀ u ∈ ordC L, u.oneCell' = true := ordC_one
  refine enter (n := 8) (R := fun e L' => ∃ v, e = .returned v ∧ ∀ w', St [] w L' w' → St [] w [.row 51 33 v L.length (ordC L)] w') [.slice (some A) L.length c] Try.func19 rfl rfl rfl (St.refl w) ?_ (fun e w' L' h H => by obtain ⟨v, h1, h2⟩ := h; exact ⟨v, h1, h2 w' H⟩)
  refine VC_seq ?_
  refine VC_region ?_
  refine vl_v (q_assign rfl) rfl ?_
  refine vl_nil ?_
  refine (th_n ?_)
  refine VC_seq ?_
  refine VC_seq ?_
  refine VC_region ?_
  refine vl_v (q_move rfl) rfl ?_
  refine vl_v (q_as (v := .bool false) (q_eqSN Try.underlying47 rfl rfl) rfl) rfl ?_
  refine vl_nil ?_
  refine (th_n ?_)
  refine VC_no (rfl) ?_
  refine VC_skip ?_
  refine (th_n ?_)
  refine VC_seq ?_
  refine VC_region ?_
  refine l_litG [] Try.underlying47 in51 (by decide) (by decide) rfl rfl rfl (by simp) rfl ?_
  intro b5
  refine vl_v (q_move rfl) rfl ?_
  refine l_append 0 rfl rfl rfl Try.underlying47 Try.underlying47 in51 rfl (by decide) (Reads.old hA) (by first | omega | with_reducible assumption | (simp only [zb, zu, zw, zi, za]; omega) | (simp only [zs, zr, zm, za, zb, zu, zw, zi, zt, zd, zc, zn, *] <;> first | done | omega) | rfl) (by first | (with_reducible first | exact bys_one _ | exact u32s_one _ | exact u64s_one _ | exact i64s_one _ | exact n64s_one _ | assumption) | exact bys_one _ | exact u32s_one _ | exact u64s_one _ | exact i64s_one _ | exact one_all rfl | (refine app_one ?_ ?_ <;> first | exact bys_one _ | exact one_all rfl | (simp; done))) (by first | omega | with_reducible assumption | (simp only [zb, zu, zw, zi, za]; omega) | (simp only [zs, zr, zm, za, zb, zu, zw, zi, zt, zd, zc, zn, *] <;> first | done | omega) | rfl) (by first | omega | with_reducible assumption | (simp only [zb, zu, zw, zi, za]; omega) | (simp only [zs, zr, zm, za, zb, zu, zw, zi, zt, zd, zc, zn, *] <;> first | done | omega) | rfl) rfl ?_
  intro A7 c7 hc7
  simp only [List.set_cons_zero, List.set_cons_succ, ← bys_append, ← u32s_append, ← u64s_append, ← i64s_append, List.nil_append, Nat.zero_add]
  refine vl_v (q_assign rfl) rfl ?_
  refine vl_nil ?_
  refine (th_n ?_)
  refine VC_ret ?_
  refine ⟨_, res1 rfl rfl, ?_⟩
  exact ⟨_, rfl, fun w' H' => by rw [List.flatten_nil, List.nil_append] at H'; exact H'⟩
theorem sclone_calls (L : List Ent) (A : Option Addr) (c : Nat) (hG : GoodL L) (hl : L.length ≤ 1000) (w : World) (hA : SlAt w A (ordC L)) :
    Calls Try.prog 19 #[.slice A L.length c] w fun e w' => ∃ v, e = .returned v ∧ St [] w [.row 51 33 v L.length (ordC L)] w' := by
  cases A with
  | some A => exact sclone_some L A c hG hl w hA
  | none =>
    have hL : L = [] := by
      cases L with
      | nil => rfl
      | cons e r =>
        have hlen := ordC_length hG.ok
        obtain ⟨ad, h, _⟩ := hA 0 _ (List.getElem?_eq_getElem (by rw [hlen]; simp))
        cases h
    subst hL
    refine enter (n := 8) (R := fun e L' => e = .returned (.slice none 0 0)) [.slice none 0 c] Try.func19 rfl rfl rfl (St.refl w) ?_ (fun e w' L' h H => ⟨_, h, ((St.refl w).addNil 51 33).keep H.kept⟩)
    refine VC_seq ?_
    refine VC_region ?_
    refine vl_v (q_assign rfl) rfl ?_
    refine vl_nil ?_
    refine (th_n ?_)
    refine VC_seq ?_
    refine VC_seq ?_
    refine VC_region ?_
    refine vl_v (q_move rfl) rfl ?_
    refine vl_v (q_as (v := .bool true) (q_eqSN Try.underlying47 rfl rfl) rfl) rfl ?_
    refine vl_nil ?_
    refine (th_n ?_)
    refine VC_yes (rfl) ?_
    refine VC_seq ?_
    refine VC_region ?_
    refine vl_v (q_assign rfl) rfl ?_
    refine vl_nil ?_
    refine (th_n ?_)
    refine VC_ret ?_
    refine (th_r ?_)
    refine ⟨_, res1 rfl rfl, ?_⟩
    exact rfl
set_option maxHeartbeats 1000000 in
theorem copy_calls (b m : Nat) (o : Obj) (A : Option Addr) (c : Nat) (L : List Ent) (hE : MapOf o (mapE L)) (hG : GoodL L) (hl : L.length ≤ 1000) (w : World) (hS : SlAt w (some ⟨b, 0, none⟩) [.map (some m), .slice A L.length c]) (ho : w.heap[m]? = some o) (hA : SlAt w A (ordC L)) :
    Calls Try.prog 15 #[vP b 0] w fun e w' => ∃ b' m', e = .returned (vP b' 0) ∧ SkC [] w b' m' L [] w' := by
  have hml : m < w.heap.size := (Array.getElem?_eq_some_iff.1 ho).1
  refine enter (n := 15) (R := fun e L' => ∃ b' m', e = .returned (vP b' 0) ∧ ∀ w', St [] w L' w' → SkC [] w b' m' L [] w') [vP b 0] Try.func15 rfl rfl rfl (St.refl w) ?_ (fun e w' L' h H => by obtain ⟨b', m', h1, h2⟩ := h; exact ⟨b', m', h1, h2 w' H⟩)
  refine VC_seq ?_
  refine VC_region ?_
  refine vl_v (q_assign rfl) rfl ?_
  refine vl_nil ?_
  refine (th_n ?_)
  refine VC_seq ?_
  refine VC_drawM 9 [[], [0], [1], [2], [3], [], [5], [6], [7], [8, 4], [4, 9], [10], [11, 9, 0, 1, 2, 3, 4, 5, 6, 7, 8, 10]] [[], [0], [0, 1], [0, 1, 2], [0, 1, 2, 3], [], [5], [5, 6], [5, 6, 7], [0, 1, 2, 3, 4, 5, 6, 7, 8], [0, 1, 2, 3, 4, 5, 6, 7, 8, 9], [0, 1, 2, 3, 4, 5, 6, 7, 8, 9, 10], [0, 1, 2, 3, 4, 5, 6, 7, 8, 9, 10, 11]] rfl (by kernel_rfl) ?_
  refine qm_v (fun xs hx => q_move rfl) ?_
  refine qm_v (fun xs hx => q_nilck rfl) ?_
  refine qm_v (fun xs hx => q_fldA fo49_0 (by decide) rfl rfl) ?_
  refine qm_v (fun xs hx => q_loadR (ad := ⟨b, 0, none⟩) (j := 0) Try.underlying46 rfl rfl (Reads.old hS) rfl) ?_
  refine qm_a (fun xs hx => q_callM Try.func18 rfl rfl rfl (fun w1 H1 => mclone_calls m o _ hE w1 (by rw [H1.kept.block m hml (by simp)]; exact ho))) ?_
  refine qm_v (fun xs hx => q_move rfl) ?_
  refine qm_v (fun xs hx => q_nilck rfl) ?_
  refine qm_v (fun xs hx => q_fldA fo49_1 (by decide) rfl rfl) ?_
  refine qm_v (fun xs hx => q_loadR (ad := ⟨b, 0, none⟩) (j := 1) Try.underlying47 rfl rfl (Reads.old hS) rfl) ?_
  refine qm_end ?_
  intro xs hx
  obtain ⟨f7, _⟩ := hx
  simp only [resT, nRow, nBlk, nRowT, tupAt_0, List.append_assoc, List.nil_append, List.append_nil, List.cons_append, List.singleton_append]
  obtain ⟨m7, e7⟩ := f7
  simp only [e7, nObj, List.cons_append, List.nil_append]
  refine VL.keep (Sub.cons (s := 0) rfl (Sub.cons (s := 2) rfl (Sub.cons (s := 7) rfl (Sub.cons (s := 11) rfl (Sub.nil _))))) ?_
  refine l_callR Try.func19 rfl rfl rfl (fun w1 H1 => sclone_calls L A c hG hl w1 (Reads.old hA w1 H1)) rfl ?_
  intro A12 c12 hc12 hm12
  refine vl_v (q_build (c' := [.map (some m7), .slice A12 L.length c12]) rfl rfl) rfl ?_
  refine l_boxA rfl rfl ?_
  intro b14
  refine vl_v (q_assign rfl) rfl ?_
  refine vl_nil ?_
  refine (qn_n (th_n ?_))
  refine VC_ret ?_
  refine ⟨_, res1 rfl rfl, ?_⟩
  exact ⟨_, m7, rfl, fun w' H' => ⟨o, A12, c12, hE, by rw [List.append_nil]; exact St.pick H' (ks := [0, 2, 1]) (by decide) rfl⟩⟩
end Go.Proofs.Ytngdppffcdhhlaa
