/- A writing call in a region whose order is open: what it tells and what it leaves. No condition. -/
import Derived.Test.YtngdppffcdhhlaaV12
namespace Go.PBYtngdppffcdhhlaa
open Go Go.RowKit
set_option linter.unusedSimpArgs false
set_option linter.unusedVariables false

/-- bytes of a slice that may grow -/
abbrev bodyR (T : TypeId) (b : List UInt8) (x : Option Addr × Nat) : Res := .row T 1 (.slice x.1 b.length x.2) b.length (bys b)
section
variable {P : Program} {n : Nat} {S : List Nat} {w0 : World} {Z : List PanicEntry → World → Prop} {ops : Array Oper} {L : List Res} {d : Tmp} {ty : TypeId} {pos : String} {af : Array Edge} {F : (Xs → Xs → Env) → AkP → Prop} {k : Nat} {C ti to xi xo : List Nat} {Ts : List T5} {E : Xs → Xs → Env} {A : AkP} {rest : List Oper}
theorem qp_callE {dst : Option Tmp} {f : FuncId} {fn : Func} {xs_ : Array Operand} {ats : Array TypeId} {args : Xs → Xs → List Value} (Fs : Xs → Xs → Value → Value → Prop) (N : Xs → Xs → Value → Value → List Res) (hf : P.funcs[f]? = some fn) (hb : fn.body.isSome = true) (hn : (fn.name == "runtime.NumGoroutine") = false)
    (hx : ∀ xs gs : Xs, factsAP C xs gs A → evalsE (E xs gs) xs_.toList = some (args xs gs))
    (hc : ∀ xs gs : Xs, factsAP C xs gs A → ∀ R w, St S w0 ((selI (fun j => ti.contains j) 0 L ++ ownsA (fun j => to.contains j) xs gs A) ++ ((selI (fun j => xi.contains j) 0 L ++ ownsA (fun j => xo.contains j) xs gs A) ++ R)) w →
      Calls P f (args xs gs).toArray w fun e w' => ∃ v g, e = .returned v ∧ (dst = none → v = undef) ∧ Fs xs gs v g ∧ St S w0 (N xs gs v g ++ ((selI (fun j => xi.contains j) 0 L ++ ownsA (fun j => xo.contains j) xs gs A) ++ R)) w')
    (h : quietsP P n S w0 Z ops L F (k + 1) rest Ts (fun xs gs => ext dst (xs k) (E xs gs)) (A ++ [(k, C, Fs, N)])) :
    quietsP P n S w0 Z ops L F k ({ dst := dst, op := .call { callee := .value (.func f), args := xs_, argTypes := ats }, type := ty, pos, after := af, guard := none } :: rest) ((C, ti, to, xi, xo) :: Ts) E A :=
  qp_of (s := .any Fs N) (fun xs gs hf' => .inl ⟨trivial, ⟨fun a w R hm H => opw_call _ hf hb hn (hm.evals (hx xs gs hf')) ((hc xs gs hf' R w H).mono fun e w' ⟨v, g, h1, h2, h3, h4⟩ => ⟨v, h1, v, g, rfl, h2, h3, h4⟩)⟩⟩) h
/-- a call that panics -/
theorem qp_callX {dst : Option Tmp} {f : FuncId} {fn : Func} {xs_ : Array Operand} {ats : Array TypeId} {args : Xs → Xs → List Value} {ch : List PanicEntry} (hf : P.funcs[f]? = some fn) (hb : fn.body.isSome = true) (hn : (fn.name == "runtime.NumGoroutine") = false)
    (hx : ∀ xs gs : Xs, factsAP C xs gs A → evalsE (E xs gs) xs_.toList = some (args xs gs))
    (hc : ∀ xs gs : Xs, factsAP C xs gs A → ∀ R w, St S w0 ((selI (fun j => ti.contains j) 0 L ++ ownsA (fun j => to.contains j) xs gs A) ++ ((selI (fun j => xi.contains j) 0 L ++ ownsA (fun j => xo.contains j) xs gs A) ++ R)) w →
      Calls P f (args xs gs).toArray w fun e w' => e = .panicked ch ∧ Z ch w')
    (h : quietsP P n S w0 Z ops L F (k + 1) rest Ts (fun xs gs => ext dst (xs k) (E xs gs)) (A ++ [(k, C, fun _ _ _ _ => False, fun _ _ _ _ => [])])) :
    quietsP P n S w0 Z ops L F k ({ dst := dst, op := .call { callee := .value (.func f), args := xs_, argTypes := ats }, type := ty, pos, after := af, guard := none } :: rest) ((C, ti, to, xi, xo) :: Ts) E A :=
  qp_of (s := .any (fun _ _ _ _ => False) (fun _ _ _ _ => [])) (fun xs gs hf' => .inr (.inr ⟨trivial, qx_call hf hb hn (hx xs gs hf') fun w R H => hc xs gs hf' R w H⟩)) h
end
section
variable {P : Program} {n : Nat} {S : List Nat} {w0 : World} {Q : QE} {env : Env} {L : List Res} {ops : Array Oper} {rest : List Oper} {d : Tmp} {ty : TypeId} {pos : String} {af : Array Edge}
/-- a call that tells something new, one of a family -/
theorem l_callG {ι : Type} {V : ι → Value} {M : ι → List Res} {f : FuncId} {fn : Func} {xs : Array Operand} {ats : Array TypeId} {args : List Value} (hf : P.funcs[f]? = some fn) (hb : fn.body.isSome = true) (hn : (fn.name == "runtime.NumGoroutine") = false) (hx : evalsE env xs.toList = some args)
    (hc : ∀ w, St S w0 L w → Calls P f args.toArray w (fun e w' => ∃ x, e = .returned (V x) ∧ St [] w (M x) w')) (hd : dstOk n (some d) = true) (h : ∀ x, VL P n S w0 ops Q rest ((d, V x) :: env) (M x ++ L)) :
    VL P n S w0 ops Q ({ dst := some d, op := .call { callee := .value (.func f), args := xs, argTypes := ats }, type := ty, pos, after := af, guard := none } :: rest) env L :=
  l_call (F := fun u N => ∃ x, u = V x ∧ N = M x ++ L) hf hb hn hx (fun w H => (hc w H).mono fun e w' ⟨x, h1, h2⟩ => ⟨V x, _, h1, ⟨x, rfl, rfl⟩, (H.join h2).perm List.perm_append_comm⟩) hd (by rintro u N ⟨x, rfl, rfl⟩; exact h x)
end
end Go.PBYtngdppffcdhhlaa
