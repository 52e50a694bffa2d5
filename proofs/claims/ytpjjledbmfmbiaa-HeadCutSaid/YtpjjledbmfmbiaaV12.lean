/- Panics: an operation that panics, a call that panics; what a function gave up for is told by another one that recovers. No condition. -/
import Derived.Test.YtpjjledbmfmbiaaVW
import Derived.Test.YtpjjledbmfmbiaaVS
import Derived.Test.YtpjjledbmfmbiaaY
import Derived.Defers
import Derived.Recover
import Derived.Tactics
namespace Go.PBYtpjjledbmfmbiaa
open Go Go.RowKit
set_option linter.unusedSimpArgs false
set_option linter.unusedVariables false

section
variable {P : Program} {n : Nat} {S : List Nat} {w0 : World} {Q : QE} {env : Env} {L L' : List Res} {ops : Array Oper} {rest : List Oper}
variable {d : Tmp} {dst : Option Tmp} {ty : TypeId} {pos : String} {af : Array Edge} {g : Option (Nat × Bool)}

theorem l_panic {x : Operand} {T : TypeId} {v : Value} (hx : evalE env x = some (.iface T v)) (h : Q (.panic [{ v := .iface T v, recovered := false }]) env L) :
    VL P n S w0 ops Q ({ dst := dst, op := .panic x, type := ty, pos, after := af, guard := none } :: rest) env L :=
  vl_run trivial fun a w hm H => by
    unfold Oper.wp
    have e : (execOp a.eval { dst := dst, op := .panic x, type := ty, pos, after := af, guard := none }).run P w = .halt (.panic (.iface T v)) w := by
      simp [execOp, hm.eval hx, Instr.panic, goPanic]
    rw [e]
    exact ⟨env, L, hm, H, h⟩
theorem q_iface {T : TypeId} {x : Operand} {k : IntKind} {v : Value} (hu : P.underlying T = some (.int k)) (hx : evalE env x = some v) :
    QT P n S w0 { dst := some d, op := .makeInterface T x, type := ty, pos, after := af, guard := g } env L (.val (.iface T v)) :=
  q_of rfl fun a w hm H => by simp [execOp, hm.eval hx, Instr.makeInterface, underlying, hu]
/-- a part of a block, stored as a whole -/
theorem l_storeG {t : TypeId} {x y : Operand} {b j sz : Nat} {T : TypeId} {c vs : List Value} (k : Nat) (hx : evalE env x = some (vP b j)) (hy : evalE env y = some (.agg vs.toArray)) (hk : L[k]? = some (.blk b T c)) (hi : (P.info? t).map (·.size) = some sz) (hs : vs.length = sz) (h1 : ∀ u ∈ vs, u.oneCell' = true) (hl : j + sz ≤ c.length)
    (h : VL P n S w0 ops Q rest env (L.set k (.blk b T (splice c j vs)))) : VL P n S w0 ops Q ({ dst := none, op := .store t x y, type := ty, pos, after := af, guard := none } :: rest) env L :=
  l_storeAt k hx hy hk hi rfl hs h1 hl h
theorem opw_callX {a : Act} {w : World} {K : Act → World → Prop} {QQ : Exit → Act → World → Prop} {f : FuncId} {fn : Func} {xs : Array Operand} {ats : Array TypeId} (args : List Value) (ch : List PanicEntry) (hf : P.funcs[f]? = some fn) (hb : fn.body.isSome = true) (hn : (fn.name == "runtime.NumGoroutine") = false) (hargs : xs.toList.map a.eval = args)
    (hc : Calls P f args.toArray w (fun e w' => e = .panicked ch ∧ QQ (.panic ch) a w')) : Oper.wp P { dst, op := .call { callee := .value (.func f), args := xs, argTypes := ats }, type := ty, pos, after := af, guard := g } a w K QQ := by
  unfold Oper.wp
  have hbn : ¬ fn.body = none := by intro h; rw [h] at hb; cases hb
  have hn' : ¬ fn.name = "runtime.NumGoroutine" := by intro h; rw [h] at hn; simp at hn
  have e1 : (callFunc f args.toArray).run P w = .ok (.enter f args.toArray) w := by
    simp [callFunc, hf, hn', hbn]
  have e2 : (#[] ++ xs.map a.eval ++ #[] : Array Value) = args.toArray := by
    rw [← hargs]
    apply Array.ext'
    simp
  rw [execOp_call_go, e2, e1]
  refine hc.mono ?_
  rintro e w' ⟨rfl, h⟩
  exact h
theorem opw_cloX {a : Act} {w : World} {dst : Option Tmp} {Qx : Act → World → Prop} {QQ : Exit → Act → World → Prop} {f : FuncId} {fn : Func} {xo : Operand} {xs : Array Operand} {ats : Array TypeId} {caps : Array Value} (args : List Value) {ch : List PanicEntry} (hf : P.funcs[f]? = some fn) (hb : fn.body.isSome = true) (hn : (fn.name == "runtime.NumGoroutine") = false) (hxo : a.eval xo = .func (.func f) #[] caps) (hargs : xs.toList.map a.eval ++ caps.toList = args)
    (hc : Calls P f args.toArray w (fun e w' => e = .panicked ch ∧ QQ (.panic ch) a w')) : Oper.wp P { dst, op := .call { callee := .value xo, args := xs, argTypes := ats }, type := ty, pos, after := af, guard := g } a w Qx QQ := by
  unfold Oper.wp
  have hbn : ¬ fn.body = none := by intro h; rw [h] at hb; cases hb
  have hn' : ¬ fn.name = "runtime.NumGoroutine" := by intro h; rw [h] at hn; simp at hn
  have e1 : (callFunc f args.toArray).run P w = .ok (.enter f args.toArray) w := by
    simp [callFunc, hf, hn', hbn]
  have e2 : (#[] ++ xs.map a.eval ++ caps : Array Value) = args.toArray := by
    rw [← hargs]
    apply Array.ext'
    simp
  rw [execClo hxo, e2, e1]
  refine hc.mono ?_
  rintro e w' ⟨rfl, h⟩
  exact h
/-- a call that panics -/
theorem l_callX {f : FuncId} {fn : Func} {xs : Array Operand} {ats : Array TypeId} {args : List Value} {ch : List PanicEntry} (hf : P.funcs[f]? = some fn) (hb : fn.body.isSome = true) (hn : (fn.name == "runtime.NumGoroutine") = false) (hx : evalsE env xs.toList = some args)
    (hc : ∀ w, St S w0 L w → Calls P f args.toArray w (fun e w' => e = .panicked ch ∧ St S w0 L' w')) (h : Q (.panic ch) env L') :
    VL P n S w0 ops Q ({ dst := dst, op := .call { callee := .value (.func f), args := xs, argTypes := ats }, type := ty, pos, after := af, guard := none } :: rest) env L :=
  vl_run trivial fun a w hm H => opw_callX args ch hf hb hn (hm.evals hx) ((hc w H).mono fun e w' ⟨h1, h2⟩ => ⟨h1, env, L', hm, h2, h⟩)
theorem l_callXx {ι : Type} {M : ι → List Res} {f : FuncId} {fn : Func} {xs : Array Operand} {ats : Array TypeId} {args : List Value} {ch : List PanicEntry} (hf : P.funcs[f]? = some fn) (hb : fn.body.isSome = true) (hn : (fn.name == "runtime.NumGoroutine") = false) (hx : evalsE env xs.toList = some args)
    (hc : ∀ w, St S w0 L w → Calls P f args.toArray w (fun e w' => e = .panicked ch ∧ ∃ x, St S w0 (M x) w')) (h : ∀ x, Q (.panic ch) env (M x)) :
    VL P n S w0 ops Q ({ dst := dst, op := .call { callee := .value (.func f), args := xs, argTypes := ats }, type := ty, pos, after := af, guard := none } :: rest) env L :=
  vl_run trivial fun a w hm H => opw_callX args ch hf hb hn (hm.evals hx) ((hc w H).mono fun e w' ⟨h1, x, h2⟩ => ⟨h1, env, M x, hm, h2, h x⟩)
theorem l_callF {ι : Type} {M : ι → List Res} {v : Value} {f : FuncId} {fn : Func} {xs : Array Operand} {ats : Array TypeId} {args : List Value} (hf : P.funcs[f]? = some fn) (hb : fn.body.isSome = true) (hn : (fn.name == "runtime.NumGoroutine") = false) (hx : evalsE env xs.toList = some args)
    (hc : ∀ w, St S w0 L w → Calls P f args.toArray w (fun e w' => e = .returned v ∧ ∃ x, St S w0 (M x) w')) (hd : dstOk n (some d) = true) (h : ∀ x, VL P n S w0 ops Q rest ((d, v) :: env) (M x)) :
    VL P n S w0 ops Q ({ dst := some d, op := .call { callee := .value (.func f), args := xs, argTypes := ats }, type := ty, pos, after := af, guard := none } :: rest) env L :=
  l_call (F := fun u N => u = v ∧ ∃ x, N = M x) hf hb hn hx (fun w H => (hc w H).mono fun e w' ⟨h1, x, h2⟩ => ⟨v, M x, h1, ⟨rfl, x, rfl⟩, h2⟩) hd (by rintro u N ⟨rfl, x, rfl⟩; exact h x)
theorem qn_p {ch : List PanicEntry} (h : ∀ env, Q (.panic ch) env L) : QN Q (.panic ch) env L := h
/-- in a region whose order is open -/
theorem qx_call {Z : List PanicEntry → World → Prop} {A B : List Res} {f : FuncId} {fn : Func} {xs : Array Operand} {ats : Array TypeId} {args : List Value} {ch : List PanicEntry} (hf : P.funcs[f]? = some fn) (hb : fn.body.isSome = true) (hn : (fn.name == "runtime.NumGoroutine") = false) (hx : evalsE env xs.toList = some args)
    (hc : ∀ w R, St S w0 (A ++ (B ++ R)) w → Calls P f args.toArray w (fun e w' => e = .panicked ch ∧ Z ch w')) :
    QPX P n S w0 Z { dst := dst, op := .call { callee := .value (.func f), args := xs, argTypes := ats }, type := ty, pos, after := af, guard := none } env A B :=
  ⟨fun a w R hm H => opw_callX args ch hf hb hn (hm.evals hx) ((hc w R H).mono fun e w' ⟨h1, h2⟩ => ⟨h1, h2⟩)⟩
end
end Go.PBYtpjjledbmfmbiaa
/-! ### what a function gave up for -/
namespace Go.Proofs.Ytpjjledbmfmbiaa
open Go.RowKit Go.PBYtpjjledbmfmbiaa
def errV (k : Nat) : Value := .iface 28 (.int .i64 (k : Int))
def chOf (k : Nat) : List PanicEntry := [{ v := errV k, recovered := false }]
def gaveUp : Option Nat → Ending
  | none => .returned (.tuple #[])
  | some k => .panicked (chOf k)
theorem run_ta (k : Int) (w : World) : (Instr.typeAssert (.iface 28 (.int .i64 k)) 20 28 true).run Try.prog w = .ok (.tuple #[.int .i64 k, .bool true]) w := by
  simp [Instr.typeAssert, go_sem]
set_option maxHeartbeats 2000000 in
theorem catch_some {S : List Nat} {w0 : World} {M : List Res} (b k : Nat) (x : Value) (w : World) (H : St S w0 (.blk b 28 [x] :: M) w) :
    CallsD Try.prog 37 #[vP b 0] (.panicking (chOf k)) w fun e u' w' =>
      e = .returned (.tuple #[]) ∧ u' = .panicking [{ v := errV k, recovered := true }] ∧ St S w0 (.blk b 28 [.int .i64 (k : Int)] :: M) w' := by
  refine callsD_of_wpS Try.func37 rfl fun c₀ cs hu => ?_
  unfold chOf errV at hu
  apply wpS_seq
  apply wpS_region
  simp [wpOpsS, go_sem, recoverD, hu, Try.ntmps37, Exit.thenS, run_ta]
  refine wpS_of_wp ?_
  refine wp_mono ((?_ : VC Try.prog 10 S w0 _ (fun e env L => e = .normal ∧ L = .blk b 28 [.int .i64 (k : Int)] :: M) [(0, vP b 0), (1, .int .i64 (k : Int)), (2, .bool true)] (.blk b 28 [x] :: M)).run _ w ⟨by simp, rfl, ?_⟩ H) ?_
  · refine VC_seq ?_
    refine VC_region ?_
    refine vl_v (q_move rfl) rfl ?_
    refine vl_nil ?_
    refine th_n ?_
    refine VC_yes rfl ?_
    refine VC_region ?_
    refine vl_v (q_move rfl) rfl ?_
    refine l_store1 0 rfl rfl rfl sz28 rfl (by simp) ?_
    refine vl_nil ?_
    exact ⟨rfl, rfl⟩
  · intro t v ht
    rw [look_cons] at ht
    split at ht
    · rename_i e; subst e; cases ht; simp
    rw [look_cons] at ht
    split at ht
    · rename_i e; subst e; cases ht; simp
    rw [look_cons] at ht
    split at ht
    · rename_i e; subst e; cases ht; simp
    · cases ht
  · rintro e a w' ⟨env, L', hm, H', rfl, rfl⟩
    exact ⟨hm.defers, _, rfl, _, results_none rfl _ _ _, rfl, rfl, H'⟩
theorem run_ta0 (w : World) : (Instr.typeAssert .nilIface 20 28 true).run Try.prog w = .ok (.tuple #[.int .i64 0, .bool false]) w := by
  have hz := zr28
  cases h1 : Try.prog.info? 28 with
  | none => rw [h1] at hz; simp at hz
  | some i =>
    have h2 : i.zero = some (.int .i64 0) := by simpa [h1] using hz
    simp [Instr.typeAssert, go_sem, zeroValue, typeInfo, h1, h2]
set_option maxHeartbeats 2000000 in
theorem catch_none {S : List Nat} {w0 : World} {M : List Res} (b : Nat) (x : Value) (w : World) (H : St S w0 (.blk b 28 [x] :: M) w) :
    CallsD Try.prog 37 #[vP b 0] .returning w fun e u' w' =>
      e = .returned (.tuple #[]) ∧ u' = .returning ∧ St S w0 (.blk b 28 [x] :: M) w' := by
  refine callsD_of_wpS Try.func37 rfl fun c₀ cs hu => ?_
  apply wpS_seq
  apply wpS_region
  simp [wpOpsS, go_sem, recoverD, hu, Try.ntmps37, Exit.thenS, run_ta0]
  refine wpS_of_wp ?_
  refine wp_mono ((?_ : VC Try.prog 10 S w0 _ (fun e env L => e = .normal ∧ L = .blk b 28 [x] :: M) [(2, .bool false)] (.blk b 28 [x] :: M)).run _ w ⟨by simp, rfl, ?_⟩ H) ?_
  · refine VC_seq ?_
    refine VC_region ?_
    refine vl_v (q_move rfl) rfl ?_
    refine vl_nil ?_
    refine th_n ?_
    refine VC_no rfl ?_
    refine VC_skip ?_
    exact ⟨rfl, rfl⟩
  · intro t v ht
    rw [look_cons] at ht
    split at ht
    · rename_i e; subst e; cases ht; simp
    · cases ht
  · rintro e a w' ⟨env, L', hm, H', rfl, rfl⟩
    refine ⟨hm.defers, .returning, ?_, _, results_none rfl _ _ _, rfl, rfl, H'⟩
    cases c₀
    simp_all
theorem run_loadVar1 {P : Program} {t : TypeId} {d : TypeDesc} {ad : Addr} {v : Value} {w : World} (hu : P.underlying t = some d) (hd : (match d with | .struct _ | .array _ _ => true | _ => false) = false) (hc : w.cell? ad = some v) : (loadVar t ad).run P w = .ok v w := by
  have hagg : (isAgg t).run P w = .ok false w := by
    unfold isAgg
    rw [Sem.run_bind, run_underlying hu w]
    cases d <;> simp_all
  simp [loadVar, hagg, hc]
theorem wrong_res {S : List Nat} {w0 w : World} {M : List Res} {b : Nat} {v : Value} {a : Act} (h2 : a.tmps[2]? = some (vP b 0)) (H : St S w0 (.blk b 28 [v] :: M) w) : (results Try.f22 a.tmps).run Try.prog w = .ok v w := by
  obtain ⟨ad, e, hc⟩ := (H.blk (k := 0) rfl).sl0 0 v rfl
  obtain rfl := Option.some.inj e
  have hc : w.cell? ⟨b, 0, none⟩ = some v := by simpa [Addr.add] using hc
  have hl := run_loadVar1 (P := Try.prog) (ad := ⟨b, 0, none⟩) Try.underlying28 rfl hc
  have hr : Try.f22.results = #[.cell 2 28] := rfl
  simp [results, hr, Array.getD_eq_getD_getElem?, h2, asAddr, hl]
/-- what is told of what a function gave up for, or of its having come to its end -/
theorem wrong_calls {ι : Type} {S : List Nat} {w0 : World} {L : List Res} {L1 : ι → List Res} {G : FuncId} {fnG : Func} {cap : List Value} (r : Option Nat) (hG : Try.prog.funcs[G]? = some fnG) (hb : fnG.body.isSome = true) (hn : (fnG.name == "runtime.NumGoroutine") = false)
    (hc : ∀ b w1, St S w0 (.blk b 28 [vI 0] :: L) w1 → Calls Try.prog G cap.toArray w1 (fun e w2 => e = gaveUp r ∧ ∃ x, St S w0 (.blk b 28 [vI 0] :: L1 x) w2)) (w : World) (H : St S w0 L w) :
    Calls Try.prog 22 #[.func (.func G) #[] cap.toArray] w (fun e w' => e = .returned (vI ((r.getD 0 : Nat) : Int)) ∧ ∃ x, St S w0 (L1 x) w') := by
  refine calls_of_wp_defers Try.func22 rfl ?_
  refine wp_seq (wp_region_lit ?_)
  refine wpl_want rfl (opw_alloc H (i := (Try.prog.info? 28).get!) (z := vI 0) (by kernel_rfl) (by kernel_rfl) ?_)
  intro w1 b H1
  have H1 : St S w0 (.blk b 28 [vI 0] :: L) w1 := H1.perm List.perm_append_comm
  unfold wpList
  show Code.wp _ _ _ _ _
  refine wp_seq (wp_region_lit ?_)
  refine wpl_want rfl (opw_val (v := .func (.func 37) #[] #[vP b 0]) (w' := w1) (by simp [execOp, Instr.makeFunc, Act.eval, Act.put, Try.ntmps22]) ?_)
  refine wpl_want rfl ?_
  unfold Oper.wp
  rw [show ∀ ty pos af (a : Act), a.tmps[3]? = some (.func (.func 37) #[] #[vP b 0]) → (execOp a.eval { dst := none, op := .defer { callee := .value (.tmp 3), args := #[], argTypes := #[] }, type := ty, pos := pos, after := af, guard := none }).run Try.prog w1 = .ok (.defer { target := .fn (.func 37) #[vP b 0], args := #[] }) w1 from fun ty pos af a h => by simp [go_sem, Act.eval, h]]
  · rw [Oper.upon_defer]
    unfold wpList
    show Code.wp _ _ _ _ _
    refine (fun (h : ∀ a : Act, a.tmps[0]? = some (.func (.func G) #[] cap.toArray) → a.tmps[2]? = some (vP b 0) → a.tmps.size = 6 → a.defers = [{ target := .fn (.func 37) #[vP b 0], args := #[] }] → Code.wp Try.prog _ _ a w1) => h _ ?_ ?_ ?_ ?_) ?_
    · simp [Act.put, Try.ntmps22]
    · simp [Act.put, Try.ntmps22]
    · simp [Act.put, Try.ntmps22]
    · rfl
    intro a h0 h2 hs hd
    refine wp_seq (wp_region_lit ?_)
    refine wpl_want rfl (opw_val (v := .func (.func G) #[] cap.toArray) (w' := w1) (by simp [execOp, Act.eval, h0]) ?_)
    refine wpl_want rfl ?_
    have hcal := hc b w1 H1
    have h4 : (a.put (some 4) (.func (.func G) #[] cap.toArray)).tmps[4]? = some (.func (.func G) #[] cap.toArray) := put_getElem_same (by omega)
    cases r with
    | none =>
      refine opw_clo cap hG hb hn (caps := cap.toArray) (by simp [Act.eval, h4]) (by simp) (hcal.mono ?_)
      rintro e w2 ⟨rfl, x, H2⟩
      refine ⟨_, rfl, ?_⟩
      unfold wpList
      refine (fun (h : ∀ a : Act, a.tmps[2]? = some (vP b 0) → a.defers = [{ target := .fn (.func 37) #[vP b 0], args := #[] }] → Code.wp Try.prog _ _ a w2) => h _ ?_ ?_) ?_
      · rw [put_getElem_ne (by decide), put_getElem_ne (by decide)]; exact h2
      · exact hd
      clear h0 h2 hs hd h4 hcal
      intro a h2 hd
      refine wp_seq (wp_region_lit ?_)
      refine wpl_want rfl (opw_store1 (k := 0) (vI 0) H2 rfl (by simp [Act.eval, h2]; rfl) rfl sz28 (by simp) rfl ?_)
      intro w3 H3
      unfold wpList
      refine wp_ret ?_
      show Leaves _ _ _ _ _ _ _
      rw [show (a.put none undef).defers = a.defers from rfl, hd]
      refine leaves_cons (f := 37) (args := #[vP b 0]) (by simp) (by simp [go_sem]) ?_
      refine (catch_none b (vI 0) w3 H3).mono ?_
      rintro e u w4 ⟨rfl, rfl, H4⟩
      exact ⟨_, wrong_res (a := a) h2 H4, rfl, x, H4.sub (List.sublist_cons_self _ _)⟩
    | some k =>
      refine opw_cloX cap (ch := chOf k) hG hb hn (caps := cap.toArray) (by simp [Act.eval, h4]) (by simp) (hcal.mono ?_)
      · rintro e w2 ⟨rfl, x, H2⟩
        refine ⟨rfl, ?_⟩
        show Leaves _ _ _ _ _ _ _
        rw [show (a.put (some 4) (.func (.func G) #[] cap.toArray)).defers = a.defers from rfl, hd]
        refine leaves_cons (f := 37) (args := #[vP b 0]) (by simp) (by simp [go_sem]) ?_
        refine (catch_some b k (vI 0) w2 H2).mono ?_
        rintro e u w4 ⟨rfl, rfl, H4⟩
        exact ⟨_, wrong_res (a := a.put (some 4) (.func (.func G) #[] cap.toArray)) ((put_getElem_ne (by decide)).trans h2) H4, rfl, x, H4.sub (List.sublist_cons_self _ _)⟩
  · simp [Act.put, Try.ntmps22]
end Go.Proofs.Ytpjjledbmfmbiaa
