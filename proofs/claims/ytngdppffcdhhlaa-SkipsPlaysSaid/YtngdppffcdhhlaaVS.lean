/- More laws: three results. No condition. -/
import Derived.Test.YtngdppffcdhhlaaVQ
namespace Go.PBYtngdppffcdhhlaa
open Go Go.RowKit
set_option linter.unusedSimpArgs false
set_option linter.unusedVariables false

theorem resTCT {P : Program} {n : Nat} {S : List Nat} {w0 : World} {env : Env} {L : List Res} {fn : Func} {s u r : Tmp} {t : TypeId} {dd : TypeDesc} {b sz : Nat} {T : TypeId} {c : List Value} {v x : Value} (k : Nat) (h : fn.results = #[.tmp s, .cell u t, .tmp r]) (hs : look s env = some v) (hu : P.underlying t = some dd) (hd : (match dd with | .struct _ | .array _ _ => true | _ => false) = true) (hb : look u env = some (vP b 0)) (hk : L[k]? = some (.blk b T c)) (hi : (P.info? t).map (·.size) = some sz) (hl : c.length = sz) (hr : look r env = some x) :
    ResE P n S w0 fn env L (.tuple #[v, .agg c.toArray, x]) := fun a w hm H => by
  have h1 := hm.get s _ hs
  have h3 := hm.get u _ hb
  have h5 := hm.get r _ hr
  have h2 := run_loadVarA hu hd (by rw [hi, hl]) (H.blk hk).sl0
  simp [results, h, Array.getD_eq_getD_getElem?, h1, h3, h5, asAddr, h2]
section
variable {P : Program} {n : Nat} {S : List Nat} {w0 : World} {ops : Array Oper} {Q : QE} {rest : List Oper} {d : Tmp} {ty : TypeId} {pos : String} {af : Array Edge} {env : Env} {L : List Res}
theorem l_callT3 {f : FuncId} {fn : Func} {xs : Array Operand} {ats : Array TypeId} {args : List Value} {T : TypeId} {size m : Nat} {cs : List Value} {u x : Value} (hf : P.funcs[f]? = some fn) (hb : fn.body.isSome = true) (hn : (fn.name == "runtime.NumGoroutine") = false) (hx : evalsE env xs.toList = some args)
    (hc : ∀ w, St S w0 L w → Calls P f args.toArray w (fun e w' => ∃ v, e = .returned (.tuple #[v, u, x]) ∧ St [] w [.row T size v m cs] w')) (hd : dstOk n (some d) = true)
    (h : ∀ A c, m ≤ c → c ≤ maxLen → VL P n S w0 ops Q rest ((d, .tuple #[.slice A m c, u, x]) :: env) (.row T size (.slice A m c) m cs :: L)) :
    VL P n S w0 ops Q ({ dst := some d, op := .call { callee := .value (.func f), args := xs, argTypes := ats }, type := ty, pos, after := af, guard := none } :: rest) env L :=
  vl_q (q_call (s := .any (fun v => ∃ A c, v = .tuple #[.slice A m c, u, x] ∧ m ≤ c ∧ c ≤ maxLen) (nRowT T size m cs)) hf hb hn hx fun w H => (hc w H).mono fun e w' ⟨v, h1, h2⟩ => ⟨.tuple #[v, u, x], h1, by
    have hrow : Res.ok w' (.row T size v m cs) := h2.get (k := 0) rfl
    obtain ⟨A, c, h3, h4, h5, _⟩ := Row.slice hrow
    exact ⟨A, c, by rw [h3], h4, h5⟩, h2⟩) trivial hd (by rintro v ⟨A, c, rfl, h1, h2⟩; exact h A c h1 h2)
/-- an element of several cells in a slice -/
theorem q_idxRdN {t e : TypeId} {x y : Operand} {k : IntKind} {len cap m sz : Nat} {A : Option Addr} {vs : List Value} {g : Option (Nat × Bool)} (hu : P.underlying t = some (.slice e)) (hi : (P.info? e).map (·.size) = some sz) (hx : evalE env x = some (.slice A len cap)) (hy : evalE env y = some (.int k (m : Int))) (hm : m < len) (hr : Reads S w0 L A vs) (hl : m * sz < vs.length) :
    QT P n S w0 { dst := some d, op := .indexAddr t x y, type := ty, pos, after := af, guard := g } env L (.val (ptrOf A (m * sz))) :=
  ⟨fun a w hmo H => by
    obtain ⟨ad, rfl⟩ := (hr w H).some (by omega)
    exact (q_idxS hu hi hx hy hm).run a w hmo H⟩
theorem q_loadsRd {t : TypeId} {dd : TypeDesc} {x : Operand} {A : Option Addr} {o sz : Nat} {vs us : List Value} {g : Option (Nat × Bool)} (hu : P.underlying t = some dd) (hd : (match dd with | .struct _ | .array _ _ => true | _ => false) = true) (hi : (P.info? t).map (·.size) = some sz) (hx : evalE env x = some (ptrOf A o)) (hr : Reads S w0 L A vs) (hv : (vs.drop o).take sz = us) (hl : us.length = sz) (hz : 0 < sz) :
    QT P n S w0 { dst := some d, op := .load t x, type := ty, pos, after := af, guard := g } env L (.val (.agg us.toArray)) :=
  ⟨fun a w hmo H => by
    have h1 : us.length ≤ vs.length - o := by rw [← hv, List.length_take, List.length_drop]; omega
    obtain ⟨ad, rfl⟩ := (hr w H).some (by omega)
    exact (q_loadsR (ad := ad.add o) hu hd (by rw [hi, hl]) hx (fun w H => hv ▸ ((hr w H).drop o).take sz)).run a w hmo H⟩
theorem VC_pickL {c : Code} {ks : List Nat} {M : List Res} (hnd : ks.Nodup) (h : pick L ks = some M) (hc : VC P n S w0 c Q env M) : VC P n S w0 c Q env L := VC_sub hc (Sub.refl _) (fun w H => H.pick hnd h)
theorem VL_pickL {l : List Oper} {ks : List Nat} {M : List Res} (hnd : ks.Nodup) (h : pick L ks = some M) (hc : VL P n S w0 ops Q l env M) : VL P n S w0 ops Q l env L := ⟨fun a w hm H => hc.run a w hm (H.pick hnd h)⟩
end
section
variable {P : Program} {n : Nat} {S : List Nat} {w0 : World} {Z : List PanicEntry → World → Prop} {ops : Array Oper} {L : List Res} {d : Tmp} {ty : TypeId} {pos : String} {af : Array Edge} {F : (Xs → Xs → Env) → AkP → Prop} {k : Nat} {C ti to xi xo : List Nat} {Ts : List T5} {E : Xs → Xs → Env} {A : AkP} {rest : List Oper}
theorem nBlk_vP (T : TypeId) (c : List Value) (b : Nat) : nBlk T c (vP b 0) = [.blk b T c] := rfl
/-- a store to what came to be in the region -/
theorem qp_storeN {t : TypeId} {x y : Operand} {sz : Nat} {T : TypeId} {u : Xs → Xs → Value} {c vs : Xs → Xs → List Value} (hx : ∀ xs gs : Xs, factsAP C xs gs A → evalE (E xs gs) x = some (u xs gs)) (hb : ∀ xs gs : Xs, factsAP C xs gs A → ∃ b, u xs gs = vP b 0) (hy : ∀ xs gs : Xs, factsAP C xs gs A → evalE (E xs gs) y = some (.agg (vs xs gs).toArray))
    (hp : ∀ xs gs : Xs, factsAP C xs gs A → ownsA (fun j => to.contains j) xs gs A = nBlk T (c xs gs) (u xs gs)) (hi : (P.info? t).map (·.size) = some sz) (hs : ∀ xs gs : Xs, factsAP C xs gs A → (vs xs gs).length = sz) (h1 : ∀ xs gs : Xs, factsAP C xs gs A → ∀ u ∈ vs xs gs, u.oneCell' = true) (hl : ∀ xs gs : Xs, factsAP C xs gs A → (c xs gs).length = sz)
    (h : quietsP P n S w0 Z ops L F (k + 1) rest Ts E (A ++ [(k, C, fun _ _ v _ => v = undef, fun xs gs _ _ => nBlk T (vs xs gs) (u xs gs))])) :
    quietsP P n S w0 Z ops L F k ({ dst := none, op := .store t x y, type := ty, pos, after := af, guard := none } :: rest) ((C, [], to, xi, xo) :: Ts) E A :=
  qp_of (s := .any (fun _ _ v _ => v = undef) (fun xs gs _ _ => nBlk T (vs xs gs) (u xs gs))) (fun xs gs hf => .inl ⟨trivial, by
    obtain ⟨b, e⟩ := hb xs gs hf
    have hx' := hx xs gs hf
    rw [hp xs gs hf, selI_none, List.nil_append]
    show QPT P n S w0 _ (E xs gs) _ _ (fun v _ => v = undef) (fun _ _ => nBlk T (vs xs gs) (u xs gs))
    rw [e] at hx' ⊢
    rw [nBlk_vP, nBlk_vP]
    exact ⟨fun a w R hm H => opw_store (k := 0) H rfl (hm.eval hx') (by rw [hm.eval (hy xs gs hf)]; rfl) (by rw [hi, hs xs gs hf]) (by rw [hs xs gs hf, hl xs gs hf]; omega) (h1 xs gs hf) fun w' H' => ⟨undef, undef, rfl, fun _ => rfl, rfl, by rw [splice_all (by rw [hs xs gs hf, hl xs gs hf])] at H'; exact H'⟩⟩⟩) h
end
end Go.PBYtngdppffcdhhlaa
