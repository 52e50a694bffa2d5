/- Panics: an operation that panics, a call that panics; what a function gave up for is told by another one that recovers. No condition. -/
import Derived.Test.YtngdppffcdhhlaaVW
import Derived.Test.YtngdppffcdhhlaaVS
import Derived.Defers
import Derived.Recover
import Derived.Tactics
namespace Go.PBYtngdppffcdhhlaa
open Go Go.RowKit
set_option linter.unusedSimpArgs false
set_option linter.unusedVariables false

section
variable {P : Program} {n : Nat} {S : List Nat} {w0 : World} {Q : QE} {env : Env} {L L' : List Res} {ops : Array Oper} {rest : List Oper}
variable {d : Tmp} {dst : Option Tmp} {ty : TypeId} {pos : String} {af : Array Edge} {g : Option (Nat × Bool)}

theorem l_panic {x : Operand} {T : TypeId} {v : Value} (hx : evalE env x = some (.iface T v)) (h : Q (.panic [{ v := .iface T v, recovered := false }]) env L) :
    VL P n S w0 ops Q ({ dst := dst, op := .panic x, type := ty, pos, after := af, guard := none } :: rest) env L :=
  vl_run trivial fun a w hm H => by
    unfold Oper.wp
    have e : (execOp a.eval { dst := dst, op := .panic x, type := ty, pos, after := af, guard := none }).run P w = .halt (.panic (.iface T v)) w := by
      simp [execOp, hm.eval hx, Instr.panic, goPanic]
    rw [e]
    exact ⟨env, L, hm, H, h⟩
theorem q_iface {T : TypeId} {x : Operand} {k : IntKind} {v : Value} (hu : P.underlying T = some (.int k)) (hx : evalE env x = some v) :
    QT P n S w0 { dst := some d, op := .makeInterface T x, type := ty, pos, after := af, guard := g } env L (.val (.iface T v)) :=
  q_of rfl fun a w hm H => by simp [execOp, hm.eval hx, Instr.makeInterface, underlying, hu]
/-- a part of a block, stored as a whole -/
theorem l_storeG {t : TypeId} {x y : Operand} {b j sz : Nat} {T : TypeId} {c vs : List Value} (k : Nat) (hx : evalE env x = some (vP b j)) (hy : evalE env y = some (.agg vs.toArray)) (hk : L[k]? = some (.blk b T c)) (hi : (P.info? t).map (·.size) = some sz) (hs : vs.length = sz) (h1 : ∀ u ∈ vs, u.oneCell' = true) (hl : j + sz ≤ c.length)
    (h : VL P n S w0 ops Q rest env (L.set k (.blk b T (splice c j vs)))) : VL P n S w0 ops Q ({ dst := none, op := .store t x y, type := ty, pos, after := af, guard := none } :: rest) env L :=
  l_storeAt k hx hy hk hi rfl hs h1 hl h
theorem opw_callX {a : Act} {w : World} {K : Act → World → Prop} {QQ : Exit → Act → World → Prop} {f : FuncId} {fn : Func} {xs : Array Operand} {ats : Array TypeId} (args : List Value) (ch : List PanicEntry) (hf : P.funcs[f]? = some fn) (hb : fn.body.isSome = true) (hn : (fn.name == "runtime.NumGoroutine") = false) (hargs : xs.toList.map a.eval = args)
    (hc : Calls P f args.toArray w (fun e w' => e = .panicked ch ∧ QQ (.panic ch) a w')) : Oper.wp P { dst, op := .call { callee := .value (.func f), args := xs, argTypes := ats }, type := ty, pos, after := af, guard := g } a w K QQ := by
  unfold Oper.wp
  have hbn : ¬ fn.body = none := by intro h; rw [h] at hb; cases hb
  have hn' : ¬ fn.name = "runtime.NumGoroutine" := by intro h; rw [h] at hn; simp at hn
  have e1 : (callFunc f args.toArray).run P w = .ok (.enter f args.toArray) w := by
    simp [callFunc, hf, hn', hbn]
  have e2 : (#[] ++ xs.map a.eval ++ #[] : Array Value) = args.toArray := by
    rw [← hargs]
    apply Array.ext'
    simp
  rw [execOp_call_go, e2, e1]
  refine hc.mono ?_
  rintro e w' ⟨rfl, h⟩
  exact h
theorem opw_cloX {a : Act} {w : World} {dst : Option Tmp} {Qx : Act → World → Prop} {QQ : Exit → Act → World → Prop} {f : FuncId} {fn : Func} {xo : Operand} {xs : Array Operand} {ats : Array TypeId} {caps : Array Value} (args : List Value) {ch : List PanicEntry} (hf : P.funcs[f]? = some fn) (hb : fn.body.isSome = true) (hn : (fn.name == "runtime.NumGoroutine") = false) (hxo : a.eval xo = .func (.func f) #[] caps) (hargs : xs.toList.map a.eval ++ caps.toList = args)
    (hc : Calls P f args.toArray w (fun e w' => e = .panicked ch ∧ QQ (.panic ch) a w')) : Oper.wp P { dst, op := .call { callee := .value xo, args := xs, argTypes := ats }, type := ty, pos, after := af, guard := g } a w Qx QQ := by
  unfold Oper.wp
  have hbn : ¬ fn.body = none := by intro h; rw [h] at hb; cases hb
  have hn' : ¬ fn.name = "runtime.NumGoroutine" := by intro h; rw [h] at hn; simp at hn
  have e1 : (callFunc f args.toArray).run P w = .ok (.enter f args.toArray) w := by
    simp [callFunc, hf, hn', hbn]
  have e2 : (#[] ++ xs.map a.eval ++ caps : Array Value) = args.toArray := by
    rw [← hargs]
    apply Array.ext'
    simp
  rw [execClo hxo, e2, e1]
  refine hc.mono ?_
  rintro e w' ⟨rfl, h⟩
  exact h
/-- a call that panics -/
theorem l_callX {f : FuncId} {fn : Func} {xs : Array Operand} {ats : Array TypeId} {args : List Value} {ch : List PanicEntry} (hf : P.funcs[f]? = some fn) (hb : fn.body.isSome = true) (hn : (fn.name == "runtime.NumGoroutine") = false) (hx : evalsE env xs.toList = some args)
    (hc : ∀ w, St S w0 L w → Calls P f args.toArray w (fun e w' => e = .panicked ch ∧ St S w0 L' w')) (h : Q (.panic ch) env L') :
    VL P n S w0 ops Q ({ dst := dst, op := .call { callee := .value (.func f), args := xs, argTypes := ats }, type := ty, pos, after := af, guard := none } :: rest) env L :=
  vl_run trivial fun a w hm H => opw_callX args ch hf hb hn (hm.evals hx) ((hc w H).mono fun e w' ⟨h1, h2⟩ => ⟨h1, env, L', hm, h2, h⟩)
theorem l_callXx {ι : Type} {M : ι → List Res} {f : FuncId} {fn : Func} {xs : Array Operand} {ats : Array TypeId} {args : List Value} {ch : List PanicEntry} (hf : P.funcs[f]? = some fn) (hb : fn.body.isSome = true) (hn : (fn.name == "runtime.NumGoroutine") = false) (hx : evalsE env xs.toList = some args)
    (hc : ∀ w, St S w0 L w → Calls P f args.toArray w (fun e w' => e = .panicked ch ∧ ∃ x, St S w0 (M x) w')) (h : ∀ x, Q (.panic ch) env (M x)) :
    VL P n S w0 ops Q ({ dst := dst, op := .call { callee := .value (.func f), args := xs, argTypes := ats }, type := ty, pos, after := af, guard := none } :: rest) env L :=
  vl_run trivial fun a w hm H => opw_callX args ch hf hb hn (hm.evals hx) ((hc w H).mono fun e w' ⟨h1, x, h2⟩ => ⟨h1, env, M x, hm, h2, h x⟩)
theorem l_callF {ι : Type} {M : ι → List Res} {v : Value} {f : FuncId} {fn : Func} {xs : Array Operand} {ats : Array TypeId} {args : List Value} (hf : P.funcs[f]? = some fn) (hb : fn.body.isSome = true) (hn : (fn.name == "runtime.NumGoroutine") = false) (hx : evalsE env xs.toList = some args)
    (hc : ∀ w, St S w0 L w → Calls P f args.toArray w (fun e w' => e = .returned v ∧ ∃ x, St S w0 (M x) w')) (hd : dstOk n (some d) = true) (h : ∀ x, VL P n S w0 ops Q rest ((d, v) :: env) (M x)) :
    VL P n S w0 ops Q ({ dst := some d, op := .call { callee := .value (.func f), args := xs, argTypes := ats }, type := ty, pos, after := af, guard := none } :: rest) env L :=
  l_call (F := fun u N => u = v ∧ ∃ x, N = M x) hf hb hn hx (fun w H => (hc w H).mono fun e w' ⟨h1, x, h2⟩ => ⟨v, M x, h1, ⟨rfl, x, rfl⟩, h2⟩) hd (by rintro u N ⟨rfl, x, rfl⟩; exact h x)
theorem qn_p {ch : List PanicEntry} (h : ∀ env, Q (.panic ch) env L) : QN Q (.panic ch) env L := h
/-- in a region whose order is open -/
theorem qx_call {Z : List PanicEntry → World → Prop} {A B : List Res} {f : FuncId} {fn : Func} {xs : Array Operand} {ats : Array TypeId} {args : List Value} {ch : List PanicEntry} (hf : P.funcs[f]? = some fn) (hb : fn.body.isSome = true) (hn : (fn.name == "runtime.NumGoroutine") = false) (hx : evalsE env xs.toList = some args)
    (hc : ∀ w R, St S w0 (A ++ (B ++ R)) w → Calls P f args.toArray w (fun e w' => e = .panicked ch ∧ Z ch w')) :
    QPX P n S w0 Z { dst := dst, op := .call { callee := .value (.func f), args := xs, argTypes := ats }, type := ty, pos, after := af, guard := none } env A B :=
  ⟨fun a w R hm H => opw_callX args ch hf hb hn (hm.evals hx) ((hc w R H).mono fun e w' ⟨h1, h2⟩ => ⟨h1, h2⟩)⟩
end
end Go.PBYtngdppffcdhhlaa
