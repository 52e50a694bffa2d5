/- The laws of single operations in a region whose order is open and where operations write. No condition. -/
import Derived.Test.YtngdppffcdhhlaaVP
namespace Go.PBYtngdppffcdhhlaa
open Go Go.RowKit
set_option linter.unusedSimpArgs false
set_option linter.unusedVariables false

section
variable {P : Program} {n : Nat} {S : List Nat} {w0 : World} {Z : List PanicEntry → World → Prop} {ops : Array Oper} {L : List Res} {d : Tmp} {ty : TypeId} {pos : String} {af : Array Edge} {g : Option (Nat × Bool)} {o : Oper} {F : (Xs → Xs → Env) → AkP → Prop} {k : Nat} {C ti to xi xo : List Nat} {Ts : List T5} {E : Xs → Xs → Env} {A : AkP} {rest : List Oper} {op : Op} {env : Env} {B : List Res}
theorem QT.of_val {f : Value} (h : QT P n S w0 o env B (.val f)) : QPT P n S w0 o env [] B (fun v _ => v = f) (fun _ _ => []) := by
  refine ⟨fun a w R hm H => ?_⟩
  have hw := h.run a w hm (H.sub (List.sublist_append_left B R))
  unfold Oper.wp at hw ⊢
  refine upon_imp hw ?_ ?_
  · rintro v w' ⟨u, h1, h2, h3, h4⟩
    exact ⟨u, undef, h1, h2, h3, (H.join h4).perm (by simp [Sp.res])⟩
  · rintro e w' ⟨u, h1, _⟩
    have h5 := congrArg Act.defers h1
    rw [put_defs, put_defs] at h5
    have h6 := congrArg List.length h5
    simp at h6
theorem QT.of_any {Fv : Value → Prop} {N : Value → List Res} (h : QT P n S w0 o env B (.any Fv N)) : QPT P n S w0 o env [] B (fun v _ => Fv v) (fun v _ => N v) := by
  refine ⟨fun a w R hm H => ?_⟩
  have hw := h.run a w hm (H.sub (List.sublist_append_left B R))
  unfold Oper.wp at hw ⊢
  refine upon_imp hw ?_ ?_
  · rintro v w' ⟨u, h1, h2, h3, h4⟩
    exact ⟨u, undef, h1, h2, h3, (H.join h4).perm List.perm_append_comm⟩
  · rintro e w' ⟨u, h1, _⟩
    have h5 := congrArg Act.defers h1
    rw [put_defs, put_defs] at h5
    have h6 := congrArg List.length h5
    simp at h6
theorem selI_none : ∀ (L : List Res) (k : Nat), selI (fun j => ([] : List Nat).contains j) k L = []
  | [], k => rfl
  | r :: L, k => selI_none L (k + 1)
theorem ownsA_none (xs gs : Xs) : ∀ (A : AkP), ownsA (fun j => ([] : List Nat).contains j) xs gs A = []
  | [] => rfl
  | (j, Cj, F, N) :: r => ownsA_none xs gs r
theorem qp_of {s : PS} (h : ∀ xs gs : Xs, factsAP C xs gs A → QPG P n S w0 Z ops o (E xs gs) (selI (fun j => ti.contains j) 0 L ++ ownsA (fun j => to.contains j) xs gs A) (selI (fun j => xi.contains j) 0 L ++ ownsA (fun j => xo.contains j) xs gs A) (s.fact xs gs) (s.own xs gs))
    (hn : quietsP P n S w0 Z ops L F (k + 1) rest Ts (fun xs gs => ext o.dst (s.cur (mask C xs) (mask C gs) (xs k)) (E xs gs)) (A ++ s.ak k C)) : quietsP P n S w0 Z ops L F k (o :: rest) ((C, ti, to, xi, xo) :: Ts) E A := ⟨s, h, hn⟩
theorem qp_v {f : Xs → Xs → Value} (hq : ∀ xs gs : Xs, factsAP C xs gs A → QT P n S w0 { dst := some d, op, type := ty, pos, after := af, guard := none } (E xs gs) (selI (fun j => xi.contains j) 0 L ++ ownsA (fun j => xo.contains j) xs gs A) (.val (f xs gs)))
    (h : quietsP P n S w0 Z ops L F (k + 1) rest Ts (fun xs gs => (d, f (mask C xs) (mask C gs)) :: E xs gs) A) : quietsP P n S w0 Z ops L F k ({ dst := some d, op, type := ty, pos, after := af, guard := none } :: rest) ((C, [], [], xi, xo) :: Ts) E A :=
  qp_of (s := .val f) (fun xs gs hx => .inl ⟨trivial, by rw [selI_none, ownsA_none]; exact (hq xs gs hx).of_val⟩) (by rw [show A ++ (PS.val f).ak k C = A from List.append_nil A]; exact h)
theorem qp_vg {f : Xs → Xs → Value} (hg : ∀ xs gs : Xs, factsAP C xs gs A → Met ops (E xs gs) g) (hq : ∀ xs gs : Xs, factsAP C xs gs A → QT P n S w0 { dst := some d, op, type := ty, pos, after := af, guard := g } (E xs gs) (selI (fun j => xi.contains j) 0 L ++ ownsA (fun j => xo.contains j) xs gs A) (.val (f xs gs)))
    (h : quietsP P n S w0 Z ops L F (k + 1) rest Ts (fun xs gs => (d, f (mask C xs) (mask C gs)) :: E xs gs) A) : quietsP P n S w0 Z ops L F k ({ dst := some d, op, type := ty, pos, after := af, guard := g } :: rest) ((C, [], [], xi, xo) :: Ts) E A :=
  qp_of (s := .val f) (fun xs gs hx => .inl ⟨hg xs gs hx, by rw [selI_none, ownsA_none]; exact (hq xs gs hx).of_val⟩) (by rw [show A ++ (PS.val f).ak k C = A from List.append_nil A]; exact h)
theorem qp_skip (hg : ∀ xs gs : Xs, factsAP C xs gs A → Unmet ops (E xs gs) g)
    (h : quietsP P n S w0 Z ops L F (k + 1) rest Ts (fun xs gs => (d, undef) :: E xs gs) A) : quietsP P n S w0 Z ops L F k ({ dst := some d, op, type := ty, pos, after := af, guard := g } :: rest) ((C, [], [], xi, xo) :: Ts) E A :=
  qp_of (s := .val fun _ _ => undef) (fun xs gs hx => .inr (.inl ⟨hg xs gs hx, undef, rfl, by rw [selI_none, ownsA_none]; rfl⟩)) (by rw [show A ++ (PS.val fun _ _ => undef).ak k C = A from List.append_nil A]; exact h)
theorem qp_a {Fv : Xs → Xs → Value → Prop} {N : Xs → Xs → Value → List Res} (hq : ∀ xs gs : Xs, factsAP C xs gs A → QT P n S w0 { dst := some d, op, type := ty, pos, after := af, guard := none } (E xs gs) (selI (fun j => xi.contains j) 0 L ++ ownsA (fun j => xo.contains j) xs gs A) (.any (Fv xs gs) (N xs gs)))
    (h : quietsP P n S w0 Z ops L F (k + 1) rest Ts (fun xs gs => (d, xs k) :: E xs gs) (A ++ [(k, C, fun xs gs v _ => Fv xs gs v, fun xs gs v _ => N xs gs v)])) : quietsP P n S w0 Z ops L F k ({ dst := some d, op, type := ty, pos, after := af, guard := none } :: rest) ((C, [], [], xi, xo) :: Ts) E A :=
  qp_of (s := .any (fun xs gs v _ => Fv xs gs v) (fun xs gs v _ => N xs gs v)) (fun xs gs hx => .inl ⟨trivial, by rw [selI_none, ownsA_none]; exact (hq xs gs hx).of_any⟩) h
theorem qp_ag {Fv : Xs → Xs → Value → Prop} {N : Xs → Xs → Value → List Res} (hg : ∀ xs gs : Xs, factsAP C xs gs A → Met ops (E xs gs) g) (hq : ∀ xs gs : Xs, factsAP C xs gs A → QT P n S w0 { dst := some d, op, type := ty, pos, after := af, guard := g } (E xs gs) (selI (fun j => xi.contains j) 0 L ++ ownsA (fun j => xo.contains j) xs gs A) (.any (Fv xs gs) (N xs gs)))
    (h : quietsP P n S w0 Z ops L F (k + 1) rest Ts (fun xs gs => (d, xs k) :: E xs gs) (A ++ [(k, C, fun xs gs v _ => Fv xs gs v, fun xs gs v _ => N xs gs v)])) : quietsP P n S w0 Z ops L F k ({ dst := some d, op, type := ty, pos, after := af, guard := g } :: rest) ((C, [], [], xi, xo) :: Ts) E A :=
  qp_of (s := .any (fun xs gs v _ => Fv xs gs v) (fun xs gs v _ => N xs gs v)) (fun xs gs hx => .inl ⟨hg xs gs hx, by rw [selI_none, ownsA_none]; exact (hq xs gs hx).of_any⟩) h
/-- an operation that comes to a value of which a fact holds that hangs on those ahead -/
theorem qp_f {Fv : Xs → Xs → Value → Prop} (hq : ∀ xs gs : Xs, factsAP C xs gs A → ∃ v, QT P n S w0 { dst := some d, op, type := ty, pos, after := af, guard := none } (E xs gs) (selI (fun j => xi.contains j) 0 L ++ ownsA (fun j => xo.contains j) xs gs A) (.val v) ∧ Fv xs gs v)
    (h : quietsP P n S w0 Z ops L F (k + 1) rest Ts (fun xs gs => (d, xs k) :: E xs gs) (A ++ [(k, C, fun xs gs v _ => Fv xs gs v, fun _ _ _ _ => [])])) : quietsP P n S w0 Z ops L F k ({ dst := some d, op, type := ty, pos, after := af, guard := none } :: rest) ((C, [], [], xi, xo) :: Ts) E A :=
  qp_of (s := .any (fun xs gs v _ => Fv xs gs v) (fun _ _ _ _ => [])) (fun xs gs hx => .inl ⟨trivial, by
    obtain ⟨v, hv, hF⟩ := hq xs gs hx
    rw [selI_none, ownsA_none]
    have := hv.of_val
    exact ⟨fun a w R hm H => by
      have hw := this.run a w R hm H
      unfold Oper.wp at hw ⊢
      refine upon_imp hw ?_ ?_
      · rintro u w' ⟨u', g, h1, h2, h3, h4⟩
        exact ⟨u', g, h1, h2, h3 ▸ hF, h4⟩
      · rintro e w' ⟨u, g, h1, _⟩
        have h5 := congrArg Act.defers h1
        rw [put_defs, put_defs] at h5
        have h6 := congrArg List.length h5
        simp at h6⟩⟩) h
/-- what a writing operation comes to -/
def QX (S : List Nat) (w0 : World) (o : Oper) (env : Env) (B R : List Res) (Fv : Value → Value → Prop) (N : Value → Value → List Res) : QE
  | .normal, env', L' => ∃ v g, env' = ext o.dst v env ∧ (o.dst = none → v = undef) ∧ Fv v g ∧ ∀ w, St S w0 L' w → St S w0 (N v g ++ (B ++ R)) w
  | _, _, _ => False
theorem QPT.of_VL {Fv : Value → Value → Prop} {N : Value → Value → List Res} {B' : List Res} (hg : o.guard = none) (hd : dstOk n o.dst = true) (h : ∀ R, VL P n S w0 #[] (QX S w0 o env B R Fv N) [o] env (B' ++ (B ++ R))) : QPT P n S w0 o env B' B Fv N := by
  refine ⟨fun a w R hm H => ?_⟩
  have hw := (h R).run a w hm H
  unfold wpList at hw
  rw [if_pos (by unfold Region.wanted; rw [hg])] at hw
  rcases hw with hw | ⟨_, hw⟩
  · have hno : ∀ (ch : List PanicEntry) (a : Act) (w : World), ¬ lift n S w0 (QX S w0 o env B R Fv N) (.panic ch) a w := by rintro ch a w ⟨_, _, _, _, h⟩; exact h
    have hout : ¬ LetsOut (lift n S w0 (QX S w0 o env B R Fv N)) := by rintro ⟨a, w, _, _, _, _, h⟩; exact h
    unfold Oper.wp at hw ⊢
    have hw' : o.upon P a (wpList P #[] (lift n S w0 (QX S w0 o env B R Fv N)) []) noQ ((execOp a.eval o).run P w) := by
      revert hw
      generalize (execOp a.eval o).run P w = r
      intro hw
      cases r with
      | ok x w =>
        cases x <;> simp only [Oper.upon] at hw ⊢ <;> first | exact hw | skip
        refine hw.mono ?_
        intro e w' h'
        cases e with
        | returned v => exact h'
        | panicked c => exact (hno _ _ _ h').elim
        | outgrown => exact (hout h').elim
      | halt x w => cases x <;> simp only [Oper.upon] at hw ⊢ <;> first | exact hw | exact (hno _ _ _ hw).elim
    refine upon_imp hw' ?_ ?_
    · rintro v w' ⟨env', L', h1, h2, u, g, rfl, h3, h4, h5⟩
      refine ⟨u, g, ?_, h3, h4, h5 w' h2⟩
      cases hdo : o.dst with
      | none => rfl
      | some dd =>
          have hdn : dd < a.tmps.size := by rw [hm.size]; rw [hdo] at hd; exact Nat.le_of_ble_eq_true hd
          rw [hdo] at h1
          have h6 := h1.get dd u (by simp [ext, look_cons])
          rw [put_getElem_same hdn] at h6
          rw [Option.some.inj h6]
    · rintro d w' ⟨env', L', h1, _⟩
      have := h1.defers
      rw [put_defs] at this
      simp at this
  · obtain ⟨a, w, _, _, _, _, h⟩ := hw
    exact h.elim

/-- an operation that panics -/
theorem qp_x (hq : ∀ xs gs : Xs, factsAP C xs gs A → QPX P n S w0 Z { dst := some d, op, type := ty, pos, after := af, guard := none } (E xs gs) (selI (fun j => ti.contains j) 0 L ++ ownsA (fun j => to.contains j) xs gs A) (selI (fun j => xi.contains j) 0 L ++ ownsA (fun j => xo.contains j) xs gs A))
    (h : quietsP P n S w0 Z ops L F (k + 1) rest Ts (fun xs gs => (d, xs k) :: E xs gs) (A ++ [(k, C, fun _ _ _ _ => False, fun _ _ _ _ => [])])) : quietsP P n S w0 Z ops L F k ({ dst := some d, op, type := ty, pos, after := af, guard := none } :: rest) ((C, ti, to, xi, xo) :: Ts) E A :=
  qp_of (s := .any (fun _ _ _ _ => False) (fun _ _ _ _ => [])) (fun xs gs hx => .inr (.inr ⟨trivial, hq xs gs hx⟩)) h
/-- one that is never come to -/
theorem qp_dead (hq : ∀ xs gs : Xs, factsAP C xs gs A → False)
    (h : quietsP P n S w0 Z ops L F (k + 1) rest Ts (fun xs gs => ext o.dst (xs k) (E xs gs)) (A ++ [(k, C, fun _ _ _ _ => False, fun _ _ _ _ => [])])) : quietsP P n S w0 Z ops L F k (o :: rest) ((C, ti, to, xi, xo) :: Ts) E A :=
  qp_of (s := .any (fun _ _ _ _ => False) (fun _ _ _ _ => [])) (fun xs gs hx => (hq xs gs hx).elim) h
theorem qp_end (h : F E A) : quietsP P n S w0 Z ops L F k [] Ts E A := h
theorem ext_none (v : Value) (env : Env) : ext none v env = env := rfl
/-- a store: what is taken is told as a whole -/
theorem qp_store {t : TypeId} {x y : Operand} {b sz : Nat} {j : Xs → Xs → Nat} {T : TypeId} {c vs : Xs → Xs → List Value} {v : Xs → Xs → Value} (hx : ∀ xs gs : Xs, factsAP C xs gs A → evalE (E xs gs) x = some (vP b (j xs gs))) (hy : ∀ xs gs : Xs, factsAP C xs gs A → evalE (E xs gs) y = some (v xs gs))
    (hv : ∀ xs gs : Xs, factsAP C xs gs A → (v xs gs).cells.toList = vs xs gs) (hp : ∀ xs gs : Xs, factsAP C xs gs A → selI (fun j => ti.contains j) 0 L ++ ownsA (fun j => to.contains j) xs gs A = [.blk b T (c xs gs)]) (hi : (P.info? t).map (·.size) = some sz) (hs : ∀ xs gs : Xs, factsAP C xs gs A → (vs xs gs).length = sz) (h1 : ∀ xs gs : Xs, factsAP C xs gs A → ∀ u ∈ vs xs gs, u.oneCell' = true) (hl : ∀ xs gs : Xs, factsAP C xs gs A → j xs gs + sz ≤ (c xs gs).length)
    (h : quietsP P n S w0 Z ops L F (k + 1) rest Ts E (A ++ [(k, C, fun _ _ v _ => v = undef, fun xs gs _ _ => [.blk b T (splice (c xs gs) (j xs gs) (vs xs gs))])])) :
    quietsP P n S w0 Z ops L F k ({ dst := none, op := .store t x y, type := ty, pos, after := af, guard := none } :: rest) ((C, ti, to, xi, xo) :: Ts) E A :=
  qp_of (s := .any (fun _ _ v _ => v = undef) (fun xs gs _ _ => [.blk b T (splice (c xs gs) (j xs gs) (vs xs gs))])) (fun xs gs hf => .inl ⟨trivial, by
    rw [hp xs gs hf]
    exact ⟨fun a w R hm H => opw_store (k := 0) H rfl (hm.eval (hx xs gs hf)) (by rw [hm.eval (hy xs gs hf)]; exact hv xs gs hf) (by rw [hi, hs xs gs hf]) (by rw [hs xs gs hf]; exact hl xs gs hf) (h1 xs gs hf) fun w' H' => ⟨undef, undef, rfl, fun _ => rfl, rfl, H'⟩⟩⟩) h
theorem qp_storeA {t : TypeId} {x y : Operand} {b sz : Nat} {T : TypeId} {c vs : Xs → Xs → List Value} (hx : ∀ xs gs : Xs, factsAP C xs gs A → evalE (E xs gs) x = some (vP b 0)) (hy : ∀ xs gs : Xs, factsAP C xs gs A → evalE (E xs gs) y = some (.agg (vs xs gs).toArray))
    (hp : ∀ xs gs : Xs, factsAP C xs gs A → selI (fun j => ti.contains j) 0 L = [.blk b T (c xs gs)]) (hi : (P.info? t).map (·.size) = some sz) (hs : ∀ xs gs : Xs, factsAP C xs gs A → (vs xs gs).length = sz) (h1 : ∀ xs gs : Xs, factsAP C xs gs A → ∀ u ∈ vs xs gs, u.oneCell' = true) (hl : ∀ xs gs : Xs, factsAP C xs gs A → (c xs gs).length = sz)
    (h : quietsP P n S w0 Z ops L F (k + 1) rest Ts E (A ++ [(k, C, fun _ _ v _ => v = undef, fun xs gs _ _ => [.blk b T (vs xs gs)])])) :
    quietsP P n S w0 Z ops L F k ({ dst := none, op := .store t x y, type := ty, pos, after := af, guard := none } :: rest) ((C, ti, [], xi, xo) :: Ts) E A :=
  qp_of (s := .any (fun _ _ v _ => v = undef) (fun xs gs _ _ => [.blk b T (vs xs gs)])) (fun xs gs hf => .inl ⟨trivial, by
    rw [hp xs gs hf, ownsA_none]
    exact ⟨fun a w R hm H => opw_store (k := 0) H rfl (hm.eval (hx xs gs hf)) (by rw [hm.eval (hy xs gs hf)]; rfl) (by rw [hi, hs xs gs hf]) (by rw [hs xs gs hf, hl xs gs hf]; omega) (h1 xs gs hf) fun w' H' => ⟨undef, undef, rfl, fun _ => rfl, rfl, by rw [splice_all (by rw [hs xs gs hf, hl xs gs hf])] at H'; exact H'⟩⟩⟩) h
theorem qp_storeAO {t : TypeId} {x y : Operand} {b sz : Nat} {T : TypeId} {c vs : Xs → Xs → List Value} (hx : ∀ xs gs : Xs, factsAP C xs gs A → evalE (E xs gs) x = some (vP b 0)) (hy : ∀ xs gs : Xs, factsAP C xs gs A → evalE (E xs gs) y = some (.agg (vs xs gs).toArray))
    (hp : ∀ xs gs : Xs, factsAP C xs gs A → ownsA (fun j => to.contains j) xs gs A = [.blk b T (c xs gs)]) (hi : (P.info? t).map (·.size) = some sz) (hs : ∀ xs gs : Xs, factsAP C xs gs A → (vs xs gs).length = sz) (h1 : ∀ xs gs : Xs, factsAP C xs gs A → ∀ u ∈ vs xs gs, u.oneCell' = true) (hl : ∀ xs gs : Xs, factsAP C xs gs A → (c xs gs).length = sz)
    (h : quietsP P n S w0 Z ops L F (k + 1) rest Ts E (A ++ [(k, C, fun _ _ v _ => v = undef, fun xs gs _ _ => [.blk b T (vs xs gs)])])) :
    quietsP P n S w0 Z ops L F k ({ dst := none, op := .store t x y, type := ty, pos, after := af, guard := none } :: rest) ((C, [], to, xi, xo) :: Ts) E A :=
  qp_of (s := .any (fun _ _ v _ => v = undef) (fun xs gs _ _ => [.blk b T (vs xs gs)])) (fun xs gs hf => .inl ⟨trivial, by
    rw [hp xs gs hf, selI_none, List.nil_append]
    exact ⟨fun a w R hm H => opw_store (k := 0) H rfl (hm.eval (hx xs gs hf)) (by rw [hm.eval (hy xs gs hf)]; rfl) (by rw [hi, hs xs gs hf]) (by rw [hs xs gs hf, hl xs gs hf]; omega) (h1 xs gs hf) fun w' H' => ⟨undef, undef, rfl, fun _ => rfl, rfl, by rw [splice_all (by rw [hs xs gs hf, hl xs gs hf])] at H'; exact H'⟩⟩⟩) h
theorem qp_store1 {t : TypeId} {x y : Operand} {b j : Nat} {T : TypeId} {c c' : Xs → Xs → List Value} {v : Xs → Xs → Value} (hx : ∀ xs gs : Xs, factsAP C xs gs A → evalE (E xs gs) x = some (vP b j)) (hy : ∀ xs gs : Xs, factsAP C xs gs A → evalE (E xs gs) y = some (v xs gs))
    (hp : ∀ xs gs : Xs, factsAP C xs gs A → selI (fun j => ti.contains j) 0 L = [.blk b T (c xs gs)]) (hi : (P.info? t).map (·.size) = some 1) (h1 : ∀ xs gs : Xs, factsAP C xs gs A → (v xs gs).oneCell' = true) (hl : ∀ xs gs : Xs, factsAP C xs gs A → j < (c xs gs).length) (hc : ∀ xs gs : Xs, factsAP C xs gs A → (c xs gs).set j (v xs gs) = c' xs gs)
    (h : quietsP P n S w0 Z ops L F (k + 1) rest Ts E (A ++ [(k, C, fun _ _ v _ => v = undef, fun xs gs _ _ => [.blk b T (c' xs gs)])])) :
    quietsP P n S w0 Z ops L F k ({ dst := none, op := .store t x y, type := ty, pos, after := af, guard := none } :: rest) ((C, ti, [], xi, xo) :: Ts) E A :=
  qp_of (s := .any (fun _ _ v _ => v = undef) (fun xs gs _ _ => [.blk b T (c' xs gs)])) (fun xs gs hf => .inl ⟨trivial, by
    rw [hp xs gs hf, ownsA_none]
    exact ⟨fun a w R hm H => opw_store1 (k := 0) (v xs gs) H rfl (hm.eval (hx xs gs hf)) (hm.eval (hy xs gs hf)) hi (hl xs gs hf) (h1 xs gs hf) fun w' H' => ⟨undef, undef, rfl, fun _ => rfl, rfl, by rw [splice_set (hl xs gs hf), hc xs gs hf] at H'; exact H'⟩⟩⟩) h
theorem qp_store1O {t : TypeId} {x y : Operand} {b j : Nat} {T : TypeId} {c c' : Xs → Xs → List Value} {v : Xs → Xs → Value} (hx : ∀ xs gs : Xs, factsAP C xs gs A → evalE (E xs gs) x = some (vP b j)) (hy : ∀ xs gs : Xs, factsAP C xs gs A → evalE (E xs gs) y = some (v xs gs))
    (hp : ∀ xs gs : Xs, factsAP C xs gs A → ownsA (fun j => to.contains j) xs gs A = [.blk b T (c xs gs)]) (hi : (P.info? t).map (·.size) = some 1) (h1 : ∀ xs gs : Xs, factsAP C xs gs A → (v xs gs).oneCell' = true) (hl : ∀ xs gs : Xs, factsAP C xs gs A → j < (c xs gs).length) (hc : ∀ xs gs : Xs, factsAP C xs gs A → (c xs gs).set j (v xs gs) = c' xs gs)
    (h : quietsP P n S w0 Z ops L F (k + 1) rest Ts E (A ++ [(k, C, fun _ _ v _ => v = undef, fun xs gs _ _ => [.blk b T (c' xs gs)])])) :
    quietsP P n S w0 Z ops L F k ({ dst := none, op := .store t x y, type := ty, pos, after := af, guard := none } :: rest) ((C, [], to, xi, xo) :: Ts) E A :=
  qp_of (s := .any (fun _ _ v _ => v = undef) (fun xs gs _ _ => [.blk b T (c' xs gs)])) (fun xs gs hf => .inl ⟨trivial, by
    rw [hp xs gs hf, selI_none, List.nil_append]
    exact ⟨fun a w R hm H => opw_store1 (k := 0) (v xs gs) H rfl (hm.eval (hx xs gs hf)) (hm.eval (hy xs gs hf)) hi (hl xs gs hf) (h1 xs gs hf) fun w' H' => ⟨undef, undef, rfl, fun _ => rfl, rfl, by rw [splice_set (hl xs gs hf), hc xs gs hf] at H'; exact H'⟩⟩⟩) h
/-- any writing operation, walked as if it stood alone -/
theorem qp_w (Fs : Xs → Xs → Value → Value → Prop) (N : Xs → Xs → Value → Value → List Res) (hg : o.guard = none) (hd : dstOk n o.dst = true)
    (hq : ∀ xs gs : Xs, factsAP C xs gs A → ∀ R, VL P n S w0 #[] (QX S w0 o (E xs gs) (selI (fun j => xi.contains j) 0 L ++ ownsA (fun j => xo.contains j) xs gs A) R (Fs xs gs) (N xs gs)) [o] (E xs gs) ((selI (fun j => ti.contains j) 0 L ++ ownsA (fun j => to.contains j) xs gs A) ++ ((selI (fun j => xi.contains j) 0 L ++ ownsA (fun j => xo.contains j) xs gs A) ++ R)))
    (h : quietsP P n S w0 Z ops L F (k + 1) rest Ts (fun xs gs => ext o.dst (xs k) (E xs gs)) (A ++ [(k, C, Fs, N)])) : quietsP P n S w0 Z ops L F k (o :: rest) ((C, ti, to, xi, xo) :: Ts) E A :=
  qp_of (s := .any Fs N) (fun xs gs hf => .inl ⟨by rw [hg]; trivial, QPT.of_VL hg hd (hq xs gs hf)⟩) h
end
theorem Reads.rowV {S : List Nat} {w0 : World} {L : List Res} {T : TypeId} {size m cap r : Nat} {A : Option Addr} {v : Value} {xs : List Value} (k : Nat) (hv : v = .slice A m cap) (hk : L[k]? = some (.row T size v r xs)) : Reads S w0 L A xs := by
  subst hv
  exact Reads.row k hk
section
variable {P : Program} {n : Nat} {S : List Nat} {w0 : World} {Z : List PanicEntry → World → Prop} {ops : Array Oper} {L : List Res} {d : Tmp} {ty : TypeId} {pos : String} {af : Array Edge} {F : (Xs → Xs → Env) → AkP → Prop} {k : Nat} {C ti to xi xo : List Nat} {Ts : List T5} {E : Xs → Xs → Env} {A : AkP} {rest : List Oper}
/-- append -/
theorem qp_append {t tx e : TypeId} {s x : Operand} {z : Value} {size bytes p m : Nat} {v : Xs → Xs → Value} {cs news : Xs → Xs → List Value} (hu : P.underlying t = some (.slice e)) (htx : P.underlying tx = some (.slice e)) (hi : (P.info? e).map (fun i => (i.zero, i.size, i.bytes)) = some (some z, size, bytes)) (hzs : z.cells.size = size) (hb1 : bytes ≤ 1099511627776)
    (hs : ∀ xs gs : Xs, factsAP C xs gs A → evalE (E xs gs) s = some (v xs gs)) (hp : ∀ xs gs : Xs, factsAP C xs gs A → selI (fun j => ti.contains j) 0 L ++ ownsA (fun j => to.contains j) xs gs A = [.row e size (v xs gs) p (cs xs gs)])
    (hx : ∀ xs gs : Xs, factsAP C xs gs A → ∃ B cx, evalE (E xs gs) x = some (.slice B m cx) ∧ Reads S w0 (selI (fun j => xi.contains j) 0 L ++ ownsA (fun j => xo.contains j) xs gs A) B (news xs gs))
    (hl : ∀ xs gs : Xs, factsAP C xs gs A → (news xs gs).length = m * size) (h1 : ∀ xs gs : Xs, factsAP C xs gs A → ∀ u ∈ news xs gs, u.oneCell' = true) (hbytes : (p + m) * bytes ≤ 70368744177664) (hmax : p + m ≤ 70368744177664)
    (h : quietsP P n S w0 Z ops L F (k + 1) rest Ts (fun xs gs => (d, xs k) :: E xs gs) (A ++ [(k, C, fun _ _ v _ => isSl (p + m) v, fun xs gs v _ => [.row e size v (p + m) (cs xs gs ++ news xs gs)])])) :
    quietsP P n S w0 Z ops L F k ({ dst := some d, op := .call { callee := .builtin .append, args := #[s, x], argTypes := #[t, tx] }, type := ty, pos, after := af, guard := none } :: rest) ((C, ti, to, xi, xo) :: Ts) E A :=
  qp_of (s := .any (fun _ _ v _ => isSl (p + m) v) (fun xs gs v _ => [.row e size v (p + m) (cs xs gs ++ news xs gs)])) (fun xs gs hf => .inl ⟨trivial, by
    obtain ⟨B, cx, hx1, hx2⟩ := hx xs gs hf
    rw [hp xs gs hf]
    exact ⟨fun a w R hm H => opw_append (k := 0) H rfl hu htx hi hzs hb1 (hm.eval (hs xs gs hf)) (hm.eval hx1) (hx2 w (H.sub ((List.sublist_append_left _ R).trans (List.sublist_append_right _ _)))) (hl xs gs hf) (h1 xs gs hf) hbytes hmax fun w' v' H' => ⟨v', undef, rfl, fun h => (by simp at h), by
      have hrow : Res.ok w' (.row e size v' (p + m) (cs xs gs ++ news xs gs)) := H'.get (k := 0) rfl
      obtain ⟨B', c', h3, h4, h5, _⟩ := Row.slice hrow
      exact ⟨B', c', h3, h4, h5⟩, H'⟩⟩⟩) h
/-- append of a text -/
theorem qp_appendS {t tx e : TypeId} {s x : Operand} {z : Value} {bytes p : Nat} {v : Xs → Xs → Value} {cs : Xs → Xs → List Value} {l : List UInt8} (hu : P.underlying t = some (.slice e)) (htx : P.underlying tx = some .string) (hi : (P.info? e).map (fun i => (i.zero, i.size, i.bytes)) = some (some z, 1, bytes)) (hzs : z.cells.size = 1) (hb1 : bytes ≤ 1099511627776)
    (hs : ∀ xs gs : Xs, factsAP C xs gs A → evalE (E xs gs) s = some (v xs gs)) (hp : ∀ xs gs : Xs, factsAP C xs gs A → selI (fun j => ti.contains j) 0 L ++ ownsA (fun j => to.contains j) xs gs A = [.row e 1 (v xs gs) p (cs xs gs)])
    (hx : ∀ xs gs : Xs, factsAP C xs gs A → evalE (E xs gs) x = some (.string ⟨l.toArray⟩)) (hbytes : (p + l.length) * bytes ≤ 70368744177664) (hmax : p + l.length ≤ 70368744177664)
    (h : quietsP P n S w0 Z ops L F (k + 1) rest Ts (fun xs gs => (d, xs k) :: E xs gs) (A ++ [(k, C, fun _ _ v _ => isSl (p + l.length) v, fun xs gs v _ => [.row e 1 v (p + l.length) (cs xs gs ++ bys l)])])) :
    quietsP P n S w0 Z ops L F k ({ dst := some d, op := .call { callee := .builtin .append, args := #[s, x], argTypes := #[t, tx] }, type := ty, pos, after := af, guard := none } :: rest) ((C, ti, to, xi, xo) :: Ts) E A :=
  qp_of (s := .any (fun _ _ v _ => isSl (p + l.length) v) (fun xs gs v _ => [.row e 1 v (p + l.length) (cs xs gs ++ bys l)])) (fun xs gs hf => .inl ⟨trivial, by
    rw [hp xs gs hf]
    exact ⟨fun a w R hm H => by
      obtain ⟨i, hi, hz', h1', h2'⟩ := info_parts hi
      obtain ⟨v', w', T', hr, hrow, hg, hat⟩ := run_append_rowT (P := P) w t tx ty e i z 1 bytes hu .string htx (.inr rfl) hi hz' h1' h2' hzs (v xs gs) p (cs xs gs) (H.get (k := 0) rfl) (.string ⟨l.toArray⟩) l.length (bys l) (by rw [bys_length, Nat.mul_one]) (fun w' => by simp [Builtin.lenOf, ByteArray.size]) cellsOfStr (bys_one _) hbytes hmax hb1
      have hT : T' = e := by rcases hat with ⟨_, e', _⟩ | ⟨_, e', _⟩ <;> exact e'
      subst hT
      refine opw_val (v := v') (w' := w') (by simp only [BigFrame.execOp_builtin, BigFrame.builtin_append, List.map_toArray, List.map_cons, List.map_nil, hm.eval (hs xs gs hf), hm.eval (hx xs gs hf), Sem.run_bind, hr, Result.andThen_ok, Sem.run_pure]) ?_
      obtain ⟨B, c, rfl, hc, hcm, _⟩ := Row.slice hrow
      refine ⟨_, undef, rfl, fun h => by simp at h, ⟨B, c, rfl, hc, hcm⟩, H.change (k := 0) rfl hg hrow ?_⟩
      intro b hb
      simp only [Res.at] at hb ⊢
      rcases hat with ⟨e, _⟩ | ⟨e, _⟩
      · exact .inl (e ▸ hb)
      · rw [hb] at e; simp only [Option.some.injEq] at e; exact .inr (by omega)⟩⟩) h
end
theorem resCC {P : Program} {n : Nat} {S : List Nat} {w0 : World} {env : Env} {L : List Res} {fn : Func} {s u : Tmp} {t t' : TypeId} {dd dd' : TypeDesc} {b b' sz sz' : Nat} {T T' : TypeId} {c c' : List Value} (k k' : Nat) (h : fn.results = #[.cell s t, .cell u t']) (hu : P.underlying t = some dd) (hd : (match dd with | .struct _ | .array _ _ => true | _ => false) = true) (hs : look s env = some (vP b 0)) (hk : L[k]? = some (.blk b T c)) (hi : (P.info? t).map (·.size) = some sz) (hl : c.length = sz)
    (hu' : P.underlying t' = some dd') (hd' : (match dd' with | .struct _ | .array _ _ => true | _ => false) = true) (hs' : look u env = some (vP b' 0)) (hk' : L[k']? = some (.blk b' T' c')) (hi' : (P.info? t').map (·.size) = some sz') (hl' : c'.length = sz') :
    ResE P n S w0 fn env L (.tuple #[.agg c.toArray, .agg c'.toArray]) := fun a w hm H => by
  have h1 := hm.get s _ hs
  have h3 := hm.get u _ hs'
  have h2 := run_loadVarA hu hd (by rw [hi, hl]) (H.blk hk).sl0
  have h4 := run_loadVarA hu' hd' (by rw [hi', hl']) (H.blk hk').sl0
  simp [results, h, Array.getD_eq_getD_getElem?, h1, h3, asAddr, h2, h4]
abbrev vW (x : Nat) : Value := .int .u64 (x : Int)
def n64s (l : List Nat) : List Value := l.map vW
theorem n64s_length (l : List Nat) : (n64s l).length = l.length := by simp [n64s]
theorem n64s_at {l : List Nat} {j : Nat} (h : j < l.length) : (n64s l)[j]? = some (vW (l.getD j 0)) := by simp [n64s, h]
theorem n64s_set (l : List Nat) (j : Nat) (x : Nat) : (n64s l).set j (vW x) = n64s (l.set j x) := by simp [n64s, List.map_set]
theorem n64s_one (l : List Nat) : ∀ v ∈ n64s l, v.oneCell' = true := by
  intro v hv; obtain ⟨x, _, rfl⟩ := List.mem_map.1 hv; rfl
end Go.PBYtngdppffcdhhlaa
