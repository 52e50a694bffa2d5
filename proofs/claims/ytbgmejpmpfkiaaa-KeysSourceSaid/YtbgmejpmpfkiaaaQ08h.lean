/- Words and laws that the proofs of this seat share, part 8 of 8. No condition. -/
import Derived.Test.YtbgmejpmpfkiaaaQ08g
section
namespace Go.PBYtbgmejpmpfkiaaa
open Go Go.RowKit
set_option linter.unusedVariables false
set_option linter.unusedSimpArgs false
section
variable {P : Program} {n : Nat} {S : List Nat} {w0 w : World} {env : Env} {L : List Res} {Q : Exit → Act → World → Prop} {ops : Array Oper} {rest : List Oper}
variable {d : Tmp} {dst : Option Tmp} {ty : TypeId} {pos : String} {af : Array Edge} {g : Option (Nat × Bool)} {o : Oper}
/-- a cell of a block that is owned is written -/
theorem St.setCell {b j : Nat} {T : TypeId} {c : List Value} {v : Value} (k : Nat) (H : St S w0 L w) (hk : L[k]? = some (.blk b T c)) (hj : j < c.length) : St S w0 (L.set k (.blk b T (c.set j v))) (w.setCell ⟨b, j, none⟩ v) := by
  obtain ⟨fz, h, f⟩ := H.blk hk
  rw [setCell_eq_setRow w b j c.toArray T fz v h]
  have e : c.toArray.setIfInBounds j v = (c.set j v).toArray := by simp
  rw [e]
  exact H.change hk (grownBy_setRow w b _) (setRow_blk ⟨fz, h, f⟩ (by simp)) (fun b' hb' => .inl hb')
theorem St.unfrozen {b j : Nat} {T : TypeId} {c : List Value} {k : Nat} (H : St S w0 L w) (hk : L[k]? = some (.blk b T c)) (hj : j < c.length) : w.frozen? ⟨b, j, none⟩ = false := by
  obtain ⟨fz, h, f⟩ := H.blk hk
  simp only [World.frozen?, h]
  rcases f with f | f
  · simp; omega
  · simp; omega
/-- a quiet operation, where deferred calls stand -/
theorem opw_q {K : Act → World → Prop} {v : Value} (hq : QT P n S w0 o env L (.val v)) {a : Act} (hm : Models n env { a with defers := [] }) (H : St S w0 L w) (hd : dstOk n o.dst = true)
    (h : ∀ w', St S w0 L w' → Models n (ext o.dst v env) { a.put o.dst v with defers := [] } → K (a.put o.dst v) w') : o.wp P a w K Q := by
  have hw := hq.run { a with defers := [] } w hm H
  unfold Oper.wp at hw ⊢
  have e : (execOp ({ a with defers := [] } : Act).eval o) = execOp a.eval o := rfl
  rw [e] at hw
  refine upon_imp hw ?_ ?_
  · rintro u w' ⟨v', h1, h2, h3, h4⟩
    have h3 : v' = v := h3
    subst h3
    have hp : ({ a with defers := [] } : Act).put o.dst u = { a.put o.dst u with defers := [] } := by cases o.dst <;> rfl
    have hp2 : ({ a with defers := [] } : Act).put o.dst v' = { a.put o.dst v' with defers := [] } := by cases o.dst <;> rfl
    have e1 : a.put o.dst u = a.put o.dst v' := by
      rw [hp, hp2] at h1
      have h5 := congrArg Act.tmps h1
      simp only at h5
      have h6 : (a.put o.dst u).defers = (a.put o.dst v').defers := by cases o.dst <;> rfl
      cases hx : a.put o.dst u with
      | mk t1 d1 => cases hy : a.put o.dst v' with
        | mk t2 d2 => rw [hx, hy] at h5 h6; simp only at h5 h6; rw [h5, h6]
    rw [e1]
    refine h w' ?_ ?_
    · have := H.join h4
      simpa [Sp.res] using this
    · have := hm.put (dst := o.dst) hd v'
      rwa [hp2] at this
  · rintro e w' ⟨v', h1, _⟩
    have h5 := congrArg Act.defers h1
    rw [put_defs, put_defs] at h5
    have h6 := congrArg List.length h5
    simp at h6
theorem put_models {a : Act} {v : Value} (hm : Models n env { a with defers := [] }) (hd : dstOk n dst = true) : Models n (ext dst v env) { a.put dst v with defers := [] } := by
  have := hm.put (dst := dst) hd v
  have hp2 : ({ a with defers := [] } : Act).put dst v = { a.put dst v with defers := [] } := by cases dst <;> rfl
  rwa [hp2] at this
theorem opw_defer {K : Act → World → Prop} {a : Act} {f : FuncId} {xs : Array Operand} {ats : Array TypeId} {args : List Value} (hx : evalsE env xs.toList = some args) (hm : Models n env { a with defers := [] })
    (h : K { a with defers := { target := .fn (.func f) #[], args := args.toArray } :: a.defers } w) : Oper.wp P { dst := none, op := .defer { callee := .value (.func f), args := xs, argTypes := ats }, type := ty, pos, after := af, guard := g } a w K Q := by
  have e0 : xs.toList.map a.eval = args := hm.evals hx
  have e2 : xs.map a.eval = args.toArray := by
    rw [← e0]
    apply Array.ext'
    simp
  have e : (execOp a.eval { dst := none, op := .defer { callee := .value (.func f), args := xs, argTypes := ats }, type := ty, pos, after := af, guard := g }).run P w = .ok (.defer { target := .fn (.func f) #[], args := args.toArray }) w := by
    rw [← e2]
    simp [go_sem, Act.eval]
  unfold Oper.wp
  rw [e, Oper.upon_defer]
  exact h
/-- a call of a method value -/
theorem execCloB {a : Act} {dst : Option Tmp} {f : FuncId} {xo : Operand} {xs : Array Operand} {ats : Array TypeId} {first : Array Value} (h : a.eval xo = .func (.func f) first #[]) :
    execOp a.eval { dst, op := .call { callee := .value xo, args := xs, argTypes := ats }, type := ty, pos, after := af, guard := g } = callFunc f (first ++ xs.map a.eval ++ #[]) := by
  have e1 : ∀ c : Call, c.callee = .value xo → resolve a.eval c ty = pure { target := .fn (.func f) #[], args := first ++ c.args.map a.eval } := by
    intro c hc
    unfold resolve
    rw [hc]
    simp only [h]
    rfl
  show (do let d ← resolve a.eval { callee := .value xo, args := xs, argTypes := ats } ty; invoke d.target d.args) = _
  rw [e1 _ rfl]
  rfl
theorem opw_cloB {a : Act} {w : World} {dst : Option Tmp} {Qx : Act → World → Prop} {f : FuncId} {fn : Func} {xo : Operand} {xs : Array Operand} {ats : Array TypeId} {first : List Value} (args : List Value) (hf : P.funcs[f]? = some fn) (hb : fn.body.isSome = true) (hn : (fn.name == "runtime.NumGoroutine") = false) (hxo : a.eval xo = .func (.func f) first.toArray #[]) (hargs : first ++ xs.toList.map a.eval = args)
    (hc : Calls P f args.toArray w (fun e w' => ∃ v, e = .returned v ∧ Qx (a.put dst v) w')) : Oper.wp P { dst, op := .call { callee := .value xo, args := xs, argTypes := ats }, type := ty, pos, after := af, guard := g } a w Qx Q := by
  unfold Oper.wp
  have hbn : ¬ fn.body = none := by intro h; rw [h] at hb; cases hb
  have hn' : ¬ fn.name = "runtime.NumGoroutine" := by intro h; rw [h] at hn; simp at hn
  have e1 : (callFunc f args.toArray).run P w = .ok (.enter f args.toArray) w := by
    simp [callFunc, hf, hn', hbn]
  have e2 : (first.toArray ++ xs.map a.eval ++ #[] : Array Value) = args.toArray := by
    rw [← hargs]
    apply Array.ext'
    simp
  rw [execCloB hxo, e2, e1]
  refine hc.mono ?_
  rintro e w' ⟨v, rfl, h⟩
  exact h
end
end Go.PBYtbgmejpmpfkiaaa
namespace Go.Proofs.Ytbgmejpmpfkiaaa
open Go.RowKit Go.PBYtbgmejpmpfkiaaa
set_option linter.unusedVariables false
set_option linter.unusedSimpArgs false
set_option maxRecDepth 100000
set_option maxHeartbeats 1000000 in
/-- of the first time -/
theorem slow_calls {S : List Nat} {w0 : World} {L : List Res} (b o : Nat) (T : TypeId) (c c' : List Value) (F : FuncId) (fnF : Func) (first : List Value) (hF : Try.prog.funcs[F]? = some fnF) (hb : fnF.body.isSome = true) (hn : (fnF.name == "runtime.NumGoroutine") = false)
    (hc0 : c[o]? = some (.int .u32 0)) (hc1 : c[o + 1]? = some (.int .i32 0)) (h0' : c'[o]? = some (.int .u32 0)) (h1' : c'[o + 1]? = some (.int .i32 1))
    (hf : ∀ w, St S w0 (.blk b T (c.set (o + 1) (.int .i32 1)) :: L) w → Calls Try.prog F first.toArray w (fun e w' => e = .returned (.tuple #[]) ∧ St S w0 (.blk b T c' :: L) w')) (w : World) (H : St S w0 (.blk b T c :: L) w) :
    Calls Try.prog 31 #[vP b o, .func (.func F) first.toArray #[]] w (fun e w' => e = .returned (.tuple #[]) ∧ St S w0 (.blk b T ((c'.set o (.int .u32 1)).set (o + 1) (.int .i32 0)) :: L) w') := by
  have hl0 : o < c.length := (List.getElem?_eq_some_iff.1 hc0).1
  have hl1 : o + 1 < c.length := (List.getElem?_eq_some_iff.1 hc1).1
  have hl0' : o < c'.length := (List.getElem?_eq_some_iff.1 h0').1
  have hl1' : o + 1 < c'.length := (List.getElem?_eq_some_iff.1 h1').1
  refine calls_of_wp_defers Try.func31 rfl ?_
  have hm0 : Models 21 (par 0 [vP b o, .func (.func F) first.toArray #[]]) { tmps := #[vP b o, .func (.func F) first.toArray #[]] ++ Array.replicate (Try.f31.ntmps - #[vP b o, .func (.func F) first.toArray #[]].size) undef, defers := [] } := Models.enter 21 [vP b o, .func (.func F) first.toArray #[]] (by simp)
  refine wp_seq (wp_mono ((?_ : VC Try.prog 21 S w0 _ (fun e env L' => e = .normal ∧ PBYtbgmejpmpfkiaaa.look 0 env = some (vP b o) ∧ PBYtbgmejpmpfkiaaa.look 1 env = some (.func (.func F) first.toArray #[]) ∧ L' = .blk b T (c.set (o + 1) (.int .i32 1)) :: L) _ (.blk b T c :: L)).run _ w hm0 H) ?_)
  · refine VC_region ?_
    refine vl_v (q_move rfl) rfl ?_
    refine vl_v (q_nilck rfl) rfl ?_
    refine vl_v (q_fldA fo55_2 (by decide) rfl rfl) rfl ?_
    refine l_callE Try.func53 rfl rfl rfl (fun w1 H1 => (lock_free ⟨b, o + 1, none⟩ w1 ((H1.cell (k := 0) rfl _).trans hc1) (St.unfrozen (k := 0) H1 rfl hl1)).mono fun e w' h => ⟨h.1, h.2 ▸ St.setCell 0 H1 rfl hl1⟩) rfl ?_
    refine vl_nil ?_
    exact ⟨rfl, rfl, rfl, rfl⟩
  rintro e a w1 ⟨env, L1, hm, H1, rfl, k0, k1, rfl⟩
  have hda := hm.defers
  have hm' : Models 21 env { a with defers := [] } := by cases a; simp only at hda; subst hda; exact hm
  refine wp_seq (wp_region_lit ?_)
  refine wpl_want rfl (opw_q (q_move (x := .tmp 0) k0) hm' H1 rfl fun w2 H2 hm2 => ?_)
  refine wpl_want rfl (opw_q (q_nilck rfl) hm2 H2 rfl fun w3 H3 hm3 => ?_)
  refine wpl_want rfl (opw_q (q_fldA fo55_2 (by decide) rfl rfl) hm3 H3 rfl fun w4 H4 hm4 => ?_)
  refine wpl_want rfl (opw_defer (args := [vP b (o + 1)]) rfl hm4 ?_)
  unfold wpList
  have hs := hm4.sub (Sub.cons (s := 0) (v := vP b o) k0 (Sub.cons (s := 1) (v := .func (.func F) first.toArray #[]) k1 (Sub.nil _)))
  refine (fun (h : ∀ a : Act, Models 21 [(0, vP b o), (1, .func (.func F) first.toArray #[])] { a with defers := [] } → a.defers = [{ target := .fn (.func 54) #[], args := #[vP b (o + 1)] }] → Code.wp Try.prog _ _ a w4) => h _ ?_ ?_) ?_
  · exact ⟨hs.size, rfl, hs.get⟩
  · simp [Act.put, hda]
  clear hs hm4 hm3 hm2 hm' hm hda k0 k1
  intro a hm hd
  refine wp_seq (wp_region_lit ?_)
  refine wpl_want rfl (opw_q (q_move rfl) hm H4 rfl fun w5 H5 hm5 => ?_)
  refine wpl_want rfl (opw_q (q_nilck rfl) hm5 H5 rfl fun w6 H6 hm6 => ?_)
  refine wpl_want rfl (opw_q (q_fldA fo55_1 (by decide) rfl rfl) hm6 H6 rfl fun w7 H7 hm7 => ?_)
  have hcl : w7.cell? ⟨b, o, none⟩ = some (.int .u32 ((0 : Nat) : Int)) := by
    rw [H7.cell (k := 0) rfl, List.getElem?_set_ne (by omega)]
    exact hc0
  refine wpl_want rfl (opw_call [vP b o] Try.func30 rfl rfl (hm7.evals (xs := [.tmp 13]) rfl) ((done_load ⟨b, o, none⟩ 0 w7 hcl).mono fun e w8 h => ⟨_, h.1, ?_⟩))
  obtain ⟨_, rfl⟩ := h
  refine wpl_want rfl (opw_q (q_not rfl) (put_models hm7 rfl) H7 rfl fun w9 H9 hm9 => ?_)
  unfold wpList
  have hs := hm9.sub (Sub.cons (s := 0) (v := vP b o) rfl (Sub.cons (s := 1) (v := .func (.func F) first.toArray #[]) rfl (Sub.cons (s := 15) (v := .bool true) rfl (Sub.nil _))))
  refine (fun (h : ∀ a : Act, Models 21 [(0, vP b o), (1, .func (.func F) first.toArray #[]), (15, .bool true)] { a with defers := [] } → a.defers = [{ target := .fn (.func 54) #[], args := #[vP b (o + 1)] }] → Code.wp Try.prog _ _ a w9) => h _ ?_ ?_) ?_
  · exact ⟨hs.size, rfl, hs.get⟩
  · exact hd
  clear hs hm9 hm7 hm6 hm5 hm hd hcl
  intro a hm hd
  refine wp_cond_split (t := true) (hm.eval (x := .tmp 15) rfl) (fun _ => ?_) (fun h => by cases h)
  refine wp_seq (wp_region_lit ?_)
  refine wpl_want rfl (opw_q (q_move rfl) hm H9 rfl fun w5 H5 hm5 => ?_)
  refine wpl_want rfl (opw_q (q_nilck rfl) hm5 H5 rfl fun w6 H6 hm6 => ?_)
  refine wpl_want rfl (opw_q (q_fldA fo55_1 (by decide) rfl rfl) hm6 H6 rfl fun w7 H7 hm7 => ?_)
  refine wpl_want rfl (opw_defer (args := [vP b o, .bool true]) rfl hm7 ?_)
  unfold wpList
  have hs := hm7.sub (Sub.cons (s := 0) (v := vP b o) rfl (Sub.cons (s := 1) (v := .func (.func F) first.toArray #[]) rfl (Sub.nil _)))
  refine (fun (h : ∀ a : Act, Models 21 [(0, vP b o), (1, .func (.func F) first.toArray #[])] { a with defers := [] } → a.defers = [{ target := .fn (.func 55) #[], args := #[vP b o, .bool true] }, { target := .fn (.func 54) #[], args := #[vP b (o + 1)] }] → Code.wp Try.prog _ _ a w7) => h _ ?_ ?_) ?_
  · exact ⟨hs.size, rfl, hs.get⟩
  · simp [Act.put, hd]
  clear hs hm7 hm6 hm5 hm hd
  intro a hm hd
  refine wp_region_lit ?_
  refine wpl_want rfl (opw_q (q_move rfl) hm H7 rfl fun w10 H10 hm10 => ?_)
  refine wpl_want rfl (opw_cloB first hF hb hn (first := first) (hm10.eval (x := .tmp 19) rfl) (by simp) ((hf w10 H10).mono fun e w11 h => ⟨_, h.1, ?_⟩))
  obtain ⟨_, H11⟩ := h
  unfold wpList
  show Leaves _ _ _ _ _ _ _
  rw [show ((a.put (some 19) (.func (.func F) first.toArray #[])).put (some 20) (.tuple #[])).defers = a.defers from rfl, hd]
  refine leaves_cons (f := 55) (args := #[vP b o, .bool true]) (by simp) (by simp [go_sem]) ?_
  refine (store_deferred ⟨b, o, none⟩ _ .returning w11 ((H11.cell (k := 0) rfl _).trans h0') (St.unfrozen (k := 0) H11 rfl hl0')).mono ?_
  rintro e u' w12 ⟨rfl, rfl, rfl⟩
  have H12 : St S w0 (.blk b T (c'.set o (.int .u32 1)) :: L) _ := St.setCell 0 H11.drew rfl hl0'
  refine leaves_cons (f := 54) (args := #[vP b (o + 1)]) (by simp [settle]) (by simp [go_sem]) ?_
  refine (unlock_deferred ⟨b, o + 1, none⟩ _ _ ((H12.cell (k := 0) rfl _).trans (by rw [List.getElem?_set_ne (by omega)]; exact h1')) (St.unfrozen (k := 0) H12 rfl (by simp; omega))).mono ?_
  rintro e u' w13 ⟨rfl, rfl, rfl⟩
  have H13 : St S w0 (.blk b T ((c'.set o (.int .u32 1)).set (o + 1) (.int .i32 0)) :: L) _ := St.setCell 0 H12 rfl (by simp; omega)
  exact ⟨_, results_none rfl _ _ _, rfl, H13⟩
end Go.Proofs.Ytbgmejpmpfkiaaa
end
section
namespace Go.PBYtbgmejpmpfkiaaa
open Go Go.RowKit
set_option linter.unusedSimpArgs false
set_option linter.unusedVariables false
section
variable {P : Program} {n : Nat} {S : List Nat} {w0 : World} {Q : QE} {env : Env} {L L' : List Res} {ops : Array Oper} {rest : List Oper}
variable {d : Tmp} {dst : Option Tmp} {ty : TypeId} {pos : String} {af : Array Edge} {g : Option (Nat × Bool)}
/-- a part of a block, stored as a whole -/
theorem l_storeG {t : TypeId} {x y : Operand} {b j sz : Nat} {T : TypeId} {c vs : List Value} (k : Nat) (hx : evalE env x = some (vP b j)) (hy : evalE env y = some (.agg vs.toArray)) (hk : L[k]? = some (.blk b T c)) (hi : (P.info? t).map (·.size) = some sz) (hs : vs.length = sz) (h1 : ∀ u ∈ vs, u.oneCell' = true) (hl : j + sz ≤ c.length)
    (h : VL P n S w0 ops Q rest env (L.set k (.blk b T (splice c j vs)))) : VL P n S w0 ops Q ({ dst := none, op := .store t x y, type := ty, pos, after := af, guard := none } :: rest) env L :=
  l_storeAt k hx hy hk hi rfl hs h1 hl h
end
end Go.PBYtbgmejpmpfkiaaa
end
section
namespace Go.PBYtbgmejpmpfkiaaa
open Go Go.RowKit
set_option linter.unusedSimpArgs false
set_option linter.unusedVariables false
/-- bytes of a slice that may grow -/
abbrev bodyR (T : TypeId) (b : List UInt8) (x : Option Addr × Nat) : Res := .row T 1 (.slice x.1 b.length x.2) b.length (bys b)
section
variable {P : Program} {n : Nat} {S : List Nat} {w0 : World} {Z : List PanicEntry → World → Prop} {ops : Array Oper} {L : List Res} {d : Tmp} {ty : TypeId} {pos : String} {af : Array Edge} {F : (Xs → Xs → Env) → AkP → Prop} {k : Nat} {C ti to xi xo : List Nat} {Ts : List T5} {E : Xs → Xs → Env} {A : AkP} {rest : List Oper}
theorem qp_callE {dst : Option Tmp} {f : FuncId} {fn : Func} {xs_ : Array Operand} {ats : Array TypeId} {args : Xs → Xs → List Value} (Fs : Xs → Xs → Value → Value → Prop) (N : Xs → Xs → Value → Value → List Res) (hf : P.funcs[f]? = some fn) (hb : fn.body.isSome = true) (hn : (fn.name == "runtime.NumGoroutine") = false)
    (hx : ∀ xs gs : Xs, factsAP C xs gs A → evalsE (E xs gs) xs_.toList = some (args xs gs))
    (hc : ∀ xs gs : Xs, factsAP C xs gs A → ∀ R w, St S w0 ((selI (fun j => ti.contains j) 0 L ++ ownsA (fun j => to.contains j) xs gs A) ++ ((selI (fun j => xi.contains j) 0 L ++ ownsA (fun j => xo.contains j) xs gs A) ++ R)) w →
      Calls P f (args xs gs).toArray w fun e w' => ∃ v g, e = .returned v ∧ (dst = none → v = undef) ∧ Fs xs gs v g ∧ St S w0 (N xs gs v g ++ ((selI (fun j => xi.contains j) 0 L ++ ownsA (fun j => xo.contains j) xs gs A) ++ R)) w')
    (h : quietsP P n S w0 Z ops L F (k + 1) rest Ts (fun xs gs => ext dst (xs k) (E xs gs)) (A ++ [(k, C, Fs, N)])) :
    quietsP P n S w0 Z ops L F k ({ dst := dst, op := .call { callee := .value (.func f), args := xs_, argTypes := ats }, type := ty, pos, after := af, guard := none } :: rest) ((C, ti, to, xi, xo) :: Ts) E A :=
  qp_of (s := .any Fs N) (fun xs gs hf' => .inl ⟨trivial, ⟨fun a w R hm H => opw_call _ hf hb hn (hm.evals (hx xs gs hf')) ((hc xs gs hf' R w H).mono fun e w' ⟨v, g, h1, h2, h3, h4⟩ => ⟨v, h1, v, g, rfl, h2, h3, h4⟩)⟩⟩) h
end
section
variable {P : Program} {n : Nat} {S : List Nat} {w0 : World} {Q : QE} {env : Env} {L : List Res} {ops : Array Oper} {rest : List Oper} {d : Tmp} {ty : TypeId} {pos : String} {af : Array Edge}
/-- a call that tells something new, one of a family -/
theorem l_callG {ι : Type} {V : ι → Value} {M : ι → List Res} {f : FuncId} {fn : Func} {xs : Array Operand} {ats : Array TypeId} {args : List Value} (hf : P.funcs[f]? = some fn) (hb : fn.body.isSome = true) (hn : (fn.name == "runtime.NumGoroutine") = false) (hx : evalsE env xs.toList = some args)
    (hc : ∀ w, St S w0 L w → Calls P f args.toArray w (fun e w' => ∃ x, e = .returned (V x) ∧ St [] w (M x) w')) (hd : dstOk n (some d) = true) (h : ∀ x, VL P n S w0 ops Q rest ((d, V x) :: env) (M x ++ L)) :
    VL P n S w0 ops Q ({ dst := some d, op := .call { callee := .value (.func f), args := xs, argTypes := ats }, type := ty, pos, after := af, guard := none } :: rest) env L :=
  l_call (F := fun u N => ∃ x, u = V x ∧ N = M x ++ L) hf hb hn hx (fun w H => (hc w H).mono fun e w' ⟨x, h1, h2⟩ => ⟨V x, _, h1, ⟨x, rfl, rfl⟩, (H.join h2).perm List.perm_append_comm⟩) hd (by rintro u N ⟨x, rfl, rfl⟩; exact h x)
end
end Go.PBYtbgmejpmpfkiaaa
end
section
namespace Go.PBYtbgmejpmpfkiaaa
open Go Go.RowKit
set_option linter.unusedVariables false
section
variable {P : Program} {n : Nat} {S : List Nat} {w0 : World} {env : Env} {L : List Res} {Q : QE} {ops : Array Oper} {rest : List Oper}
variable {d : Tmp} {dst : Option Tmp} {ty : TypeId} {pos : String} {af : Array Edge} {g : Option (Nat × Bool)}
/-- a method's value -/
theorem q_makeFuncB {f : FuncId} {first : Array Operand} {vs : List Value} (hx : evalsE env first.toList = some vs) :
    QT P n S w0 { dst := some d, op := .makeFunc (.func f) first #[], type := ty, pos, after := af, guard := g } env L (.val (.func (.func f) vs.toArray #[])) :=
  q_of rfl fun a w hm H => by
    have e := hm.evals hx
    have e2 : first.map a.eval = vs.toArray := by
      apply Array.ext'
      simpa using e
    show (do pure (Next.value (← Instr.makeFunc (.func f) (first.map a.eval) (#[].map a.eval))) : Sem Next).run P w = _
    rw [e2]
    simp [Instr.makeFunc]
/-- a method's value is called -/
theorem l_cloB {f : FuncId} {fn : Func} {xo : Operand} {xs : Array Operand} {ats : Array TypeId} {first args : List Value} {v : Value} {L' : List Res} (hxo : evalE env xo = some (.func (.func f) first.toArray #[])) (hf : P.funcs[f]? = some fn) (hb : fn.body.isSome = true) (hn : (fn.name == "runtime.NumGoroutine") = false) (hx : evalsE env xs.toList = some args)
    (hc : ∀ w, St S w0 L w → Calls P f (first ++ args).toArray w (fun e w' => e = .returned v ∧ St S w0 L' w')) (hd : dstOk n (some d) = true) (h : VL P n S w0 ops Q rest ((d, v) :: env) L') :
    VL P n S w0 ops Q ({ dst := some d, op := .call { callee := .value xo, args := xs, argTypes := ats }, type := ty, pos, after := af, guard := none } :: rest) env L :=
  vl_run trivial fun a w hm H => opw_cloB (first ++ args) hf hb hn (hm.eval hxo) (by rw [hm.evals hx]) ((hc w H).mono fun e w' ⟨h1, h2⟩ => ⟨v, h1, h.run _ w' (hm.put hd v) h2⟩)
end
end Go.PBYtbgmejpmpfkiaaa
namespace Go.Proofs.Ytbgmejpmpfkiaaa
open Go.RowKit Go.PBYtbgmejpmpfkiaaa
set_option linter.unusedVariables false
set_option linter.unusedSimpArgs false
set_option maxRecDepth 10000
/-- a source's cells -/
def srcC (sl : Value) (dn st : Int) (root : List UInt8) (m : Nat) : List Value := [sl, .int .u32 dn, .int .i32 st, .int .u32 0] ++ (bys root ++ [vN m])
theorem srcC_length {sl : Value} {dn st : Int} {root : List UInt8} {m : Nat} (h : root.length = 32) : (srcC sl dn st root m).length = 37 := by simp [srcC, bys, h]
theorem splice_mid (xs ys zs vs : List Value) (n : Nat) (h0 : xs.length = n) (h : vs.length = ys.length) : splice (xs ++ (ys ++ zs)) n vs = xs ++ (vs ++ zs) := by
  unfold splice
  subst h0
  simp [h]
theorem srcC_root {sl : Value} {dn st : Int} {root root' : List UInt8} {m : Nat} (h : root.length = 32) (h' : root'.length = 32) : splice (srcC sl dn st root m) 4 (bys root') = srcC sl dn st root' m :=
  splice_mid _ _ _ _ 4 rfl (by simp [bys, h, h'])
theorem srcC_part {sl : Value} {dn st : Int} {root : List UInt8} {m : Nat} (h : root.length = 32) : ((srcC sl dn st root m).drop 4).take 32 = bys root := by
  show ((bys root ++ [vN m]).take 32) = _
  rw [List.take_left' (by simp [bys, h])]
theorem srcC_many {sl : Value} {dn st : Int} {root : List UInt8} {m : Nat} (h : root.length = 32) : (srcC sl dn st root m)[36]? = some (vN m) := by
  show (bys root ++ [vN m])[32]? = _
  rw [List.getElem?_append_right (by simp [bys, h])]
  simp [bys, h]
theorem srcC_setMany {sl : Value} {dn st : Int} {root : List UInt8} {m : Nat} (v : Nat) (h : root.length = 32) : (srcC sl dn st root m).set 36 (vN v) = srcC sl dn st root v := by
  show [sl, .int .u32 dn, .int .i32 st, .int .u32 0] ++ (bys root ++ [vN m]).set 32 (vN v) = _
  rw [List.set_append_right _ _ (by simp [bys, h])]
  simp [bys, h, srcC]
abbrev srcR (b : Nat) (c : List Value) : Res := .blk b 57 c
theorem begin_calls {w0 : World} {L : List Res} (b : Nat) (seed : List UInt8) (A : Option Addr) (n c : Nat) (root : List UInt8) (m : Nat) (hn : n = seed.length) (hc : n ≤ c) (hb : n ≤ 1000000) (hr : root.length = 32) (hA : ∀ x w, St [] w0 (srcR b x :: L) w → SlAt w A (bys seed)) (w : World) (H : St [] w0 (srcR b (srcC (.slice A n c) 0 1 root m) :: L) w) :
    Calls Try.prog 19 #[vP b 0] w fun e w' => e = .returned (.tuple #[]) ∧ St [] w0 (srcR b (srcC (.slice none 0 0) 0 1 (sumB seed) m) :: L) w' := by
  have ls := sumB_length seed
  have hl := srcC_length (sl := .slice A n c) (dn := 0) (st := 1) (m := m) hr
  have lbs : (bys (sumB seed)).length = 32 := by rw [bys_length]; exact ls
  have hl2 := srcC_length (sl := .slice A n c) (dn := 0) (st := 1) (m := m) ls
  refine enter (n := 13) (R := fun e M => e = .returned (.tuple #[]) ∧ M = srcR b (srcC (.slice none 0 0) 0 1 (sumB seed) m) :: L) [vP b 0] Try.func19 rfl rfl rfl H ?_ (fun e w' L' h H => ⟨h.1, h.2 ▸ H⟩)
  refine VC_seq ?_
  refine VC_region ?_
  refine vl_v (q_move rfl) rfl ?_
  refine vl_v (q_move rfl) rfl ?_
  refine vl_v (q_nilck rfl) rfl ?_
  refine vl_v (q_fldA fo57_0 (by decide) rfl rfl) rfl ?_
  refine vl_v (q_load 0 Try.underlying22 rfl rfl rfl rfl) rfl ?_
  refine vl_v (q_callV Try.func27 rfl rfl rfl (fun w1 H1 => sum_calls seed A n c hn (by omega) w1 (hA _ w1 H1) (by omega))) rfl ?_
  refine vl_v (q_nilck rfl) rfl ?_
  refine vl_v (q_fldA fo57_2 (by decide) rfl rfl) rfl ?_
  refine l_storeG 0 rfl rfl rfl sz27 (by with_reducible assumption) (by with_reducible first | exact bys_one _ | exact u32s_one _ | exact u64s_one _ | exact i64s_one _ | exact n64s_one _ | assumption) (by omega) ?_
  simp only [List.set_cons_zero, List.set_cons_succ]
  refine vl_nil ?_
  refine (th_n ?_)
  rw [srcC_root hr ls]
  refine VC_region ?_
  refine vl_v (q_move rfl) rfl ?_
  refine vl_v (q_nilck rfl) rfl ?_
  refine vl_v (q_fldA fo57_0 (by decide) rfl rfl) rfl ?_
  refine l_store1 0 rfl rfl rfl sz22 rfl (by omega) ?_
  simp only [List.set_cons_zero, List.set_cons_succ]
  refine vl_nil ?_
  refine ⟨_, res0 rfl, ?_⟩
  exact ⟨rfl, rfl⟩
theorem do_first {w0 : World} {L : List Res} (b : Nat) (seed : List UInt8) (A : Option Addr) (n c : Nat) (root : List UInt8) (m : Nat) (hn : n = seed.length) (hc : n ≤ c) (hb : n ≤ 1000000) (hr : root.length = 32) (hA : ∀ x w, St [] w0 (srcR b x :: L) w → SlAt w A (bys seed)) (w : World) (H : St [] w0 (srcR b (srcC (.slice A n c) 0 0 root m) :: L) w) :
    Calls Try.prog 18 #[vP b 1, .func (.func 19) [vP b 0].toArray #[]] w fun e w' => e = .returned (.tuple #[]) ∧ St [] w0 (srcR b (srcC (.slice none 0 0) 1 0 (sumB seed) m) :: L) w' := by
  refine enter (n := 12) (R := fun e M => e = .returned (.tuple #[]) ∧ M = srcR b (srcC (.slice none 0 0) 1 0 (sumB seed) m) :: L) [vP b 1, .func (.func 19) [vP b 0].toArray #[]] Try.func18 rfl rfl rfl H ?_ (fun e w' L' h H => ⟨h.1, h.2 ▸ H⟩)
  refine VC_seq ?_
  refine VC_region ?_
  refine vl_v (q_move rfl) rfl ?_
  refine vl_v (q_nilck rfl) rfl ?_
  refine vl_v (q_fldA fo55_1 (by decide) rfl rfl) rfl ?_
  refine vl_v (q_as (v := .bool false) (q_callV Try.func30 rfl rfl rfl (fun w1 H1 => (done_load ⟨b, 1, none⟩ 0 w1 ((H1.cell (k := 0) rfl _).trans rfl)).mono fun e w' h => ⟨h.1, h.2 ▸ Kept.refl _ _⟩)) (by rfl)) rfl ?_
  refine vl_v (q_not rfl) rfl ?_
  refine vl_nil ?_
  refine (th_n ?_)
  refine VC_yes (rfl) ?_
  refine VC_region ?_
  refine vl_v (q_move rfl) rfl ?_
  refine vl_v (q_move rfl) rfl ?_
  refine l_callE Try.func31 rfl rfl rfl (fun w1 H1 => slow_calls (S := []) b 1 57 (srcC (.slice A n c) 0 0 root m) (srcC (.slice none 0 0) 0 1 (sumB seed) m) 19 _ [vP b 0] Try.func19 rfl rfl rfl rfl rfl rfl (fun w2 H2 => begin_calls b seed A n c root m hn hc hb hr hA w2 H2) w1 H1) rfl ?_
  refine vl_nil ?_
  refine ⟨_, res0 rfl, ?_⟩
  exact ⟨rfl, rfl⟩
theorem do_done {w0 : World} {L : List Res} (b : Nat) (F : Value) (sl : Value) (root : List UInt8) (m : Nat) (w : World) (H : St [] w0 (srcR b (srcC sl 1 0 root m) :: L) w) :
    Calls Try.prog 18 #[vP b 1, F] w fun e w' => e = .returned (.tuple #[]) ∧ St [] w0 (srcR b (srcC sl 1 0 root m) :: L) w' := by
  refine enter (n := 12) (R := fun e M => e = .returned (.tuple #[]) ∧ M = srcR b (srcC sl 1 0 root m) :: L) [vP b 1, F] Try.func18 rfl rfl rfl H ?_ (fun e w' L' h H => ⟨h.1, h.2 ▸ H⟩)
  refine VC_seq ?_
  refine VC_region ?_
  refine vl_v (q_move rfl) rfl ?_
  refine vl_v (q_nilck rfl) rfl ?_
  refine vl_v (q_fldA fo55_1 (by decide) rfl rfl) rfl ?_
  refine vl_v (q_as (v := .bool true) (q_callV Try.func30 rfl rfl rfl (fun w1 H1 => (done_load ⟨b, 1, none⟩ 1 w1 ((H1.cell (k := 0) rfl _).trans rfl)).mono fun e w' h => ⟨h.1, h.2 ▸ Kept.refl _ _⟩)) (by rfl)) rfl ?_
  refine vl_v (q_not rfl) rfl ?_
  refine vl_nil ?_
  refine (th_n ?_)
  refine VC_no (rfl) ?_
  refine VC_skip ?_
  refine ⟨_, res0 rfl, ?_⟩
  exact ⟨rfl, rfl⟩
end Go.Proofs.Ytbgmejpmpfkiaaa
end
section
namespace Go.Proofs.Ytbgmejpmpfkiaaa
open Go.RowKit Go.PBYtbgmejpmpfkiaaa
set_option linter.unusedVariables false
set_option linter.unusedSimpArgs false
set_option maxRecDepth 10000
abbrev nilS : Value := .slice none 0 0
def beginV (b : Nat) : Value := .func (.func 19) [vP b 0].toArray #[]
/-- what once does -/
def doTo (w0 : World) (b : Nat) (c0 : List Value) (root : List UInt8) (m : Nat) (L : List Res) : Prop :=
  ∀ (x : Res) (w : World), St [] w0 (srcR b c0 :: x :: L) w → Calls Try.prog 18 #[vP b 1, beginV b] w fun e w' => e = .returned (.tuple #[]) ∧ St [] w0 (srcR b (srcC nilS 1 0 root m) :: x :: L) w'
set_option maxHeartbeats 1000000 in
theorem key_gen {w0 : World} {L : List Res} (b : Nat) (c0 : List Value) (root k : List UInt8) (m : Nat) (hr : root.length = 32) (hm : m ≤ 1000000) (hk : macB root (highB m 8) = k) (hdo : doTo w0 b c0 root m L) (w : World) (H : St [] w0 (srcR b c0 :: L) w) :
    Calls Try.prog 10 #[vP b 0] w fun e w' => e = .returned (.agg (bys k).toArray) ∧ St [] w0 (srcR b (srcC nilS 1 0 root (m + 1)) :: L) w' := by
  have lk : k.length = 32 := by rw [← hk]; exact macB_length _ _
  have lh := highB_length m 8
  have hl := srcC_length (sl := nilS) (dn := 1) (st := 0) (m := m) hr
  have gp := srcC_part (sl := nilS) (dn := 1) (st := 0) (m := m) hr
  have gm := srcC_many (sl := nilS) (dn := 1) (st := 0) (m := m) hr
  have lbr : (bys root).length = 32 := by rw [bys_length]; exact hr
  have lbk : (bys k).length = 32 := by rw [bys_length]; exact lk
  have lz : (bys (List.replicate 32 0)).length = 32 := by rw [bys_length, List.length_replicate]
  refine enter (n := 29) (R := fun e M => e = .returned (.agg (bys k).toArray) ∧ ∃ x y z, M = x :: y :: z :: srcR b (srcC nilS 1 0 root (m + 1)) :: L) [vP b 0] Try.func10 rfl rfl rfl H ?_ (fun e w' L' h H => ⟨h.1, by obtain ⟨_, x, y, z, rfl⟩ := h; exact H.sub (.cons _ (.cons _ (.cons _ (List.Sublist.refl _))))⟩)
  refine VC_seq ?_
  refine VC_region ?_
  refine l_allocA zr27 rfl ?_
  intro b2
  refine vl_nil ?_
  refine (th_n ?_)
  refine VC_seq ?_
  refine VC_region ?_
  refine vl_v (q_move rfl) rfl ?_
  refine vl_v (q_nilck rfl) rfl ?_
  refine vl_v (q_fldA fo57_1 (by decide) rfl rfl) rfl ?_
  refine vl_v (q_move rfl) rfl ?_
  refine vl_v (q_makeFuncB rfl) rfl ?_
  refine l_callE Try.func18 rfl rfl rfl (fun w1 H1 => (hdo _ w1 (H1.perm (List.Perm.swap _ _ _))).mono fun e w' h => ⟨h.1, h.2.perm (List.Perm.swap _ _ _)⟩) rfl ?_
  refine vl_nil ?_
  refine (th_n ?_)
  refine VC_seq ?_
  refine VC_drawM 12 [[], [0], [1], [2], [], [4], [5], [6], [7], [8], [3, 9], [], [11, 10, 0, 1, 2, 3, 4, 5, 6, 7, 8, 9]] [[], [0], [0, 1], [0, 1, 2], [], [4], [4, 5], [4, 5, 6], [4, 5, 6, 7], [4, 5, 6, 7, 8], [0, 1, 2, 3, 4, 5, 6, 7, 8, 9], [], [0, 1, 2, 3, 4, 5, 6, 7, 8, 9, 10, 11]] rfl (by kernel_rfl) ?_
  refine qm_v (fun xs hx => q_move rfl) ?_
  refine qm_v (fun xs hx => q_nilck rfl) ?_
  refine qm_v (fun xs hx => q_fldA fo57_2 (by decide) rfl rfl) ?_
  refine qm_v (fun xs hx => q_loadsAt 1 Try.underlying27 rfl rfl rfl sz27 gp lbr) ?_
  refine qm_v (fun xs hx => q_move rfl) ?_
  refine qm_v (fun xs hx => q_nilck rfl) ?_
  refine qm_v (fun xs hx => q_fldA fo57_3 (by decide) rfl rfl) ?_
  refine qm_v (fun xs hx => q_load 1 Try.underlying3 rfl rfl rfl gm) ?_
  refine qm_v (fun xs hx => q_conv_nw Try.underlying3 Try.underlying61 rfl (by omega)) ?_
  refine qm_a (fun xs hx => q_callR Try.func21 rfl rfl rfl (fun w1 H1 => high_calls m 8 8 rfl (by omega) w1)) ?_
  refine qm_v (fun xs hx => q_callV (v := .agg (bys k).toArray) Try.func20 rfl rfl rfl (fun w1 H1 => by obtain ⟨A0, c0, e0, hc0, _, hs0⟩ := row_sl H1 0 rfl; have e1 : xs 9 = .slice A0 8 c0 := e0; rw [e1]; exact hk ▸ draw_calls root (highB m 8) A0 8 c0 hr lh.symm (by omega) w1 hs0 (by omega))) ?_
  refine qm_a (fun xs hx => q_alloc zr27 rfl) ?_
  refine qm_end ?_
  intro xs hx
  obtain ⟨⟨A19, c19, e19, hc19, hm19⟩, ⟨b3, e3⟩, _⟩ := hx
  simp only [e19]
  simp only [e3]
  simp only [resT, nRow, nBlk, nRowT, tupAt_0, List.append_assoc, List.nil_append, List.append_nil, List.cons_append, List.singleton_append, e19, e3]
  refine VL.keep (Sub.cons (s := 0) rfl (Sub.cons (s := 2) rfl (Sub.cons (s := 20) rfl (Sub.cons (s := 3) rfl (Sub.nil _))))) ?_
  refine l_storeA 1 rfl rfl rfl sz27 (by with_reducible assumption) (by with_reducible first | exact bys_one _ | exact u32s_one _ | exact u64s_one _ | exact i64s_one _ | exact n64s_one _ | assumption) (by exact lz) ?_
  simp only [List.set_cons_zero, List.set_cons_succ]
  refine vl_nil ?_
  refine (qn_n (th_n ?_))
  refine VC_seq ?_
  refine VC_region ?_
  refine vl_v (q_move rfl) rfl ?_
  refine vl_v (q_nilck rfl) rfl ?_
  refine vl_v (q_fldA fo57_3 (by decide) rfl rfl) rfl ?_
  refine vl_v (q_load 3 Try.underlying3 rfl rfl rfl gm) rfl ?_
  refine vl_v (q_add_n (q := 1) rfl rfl (by omega)) rfl ?_
  refine vl_v (q_nilck rfl) rfl ?_
  refine vl_v (q_fldA fo57_3 (by decide) rfl rfl) rfl ?_
  refine l_store1 3 rfl rfl rfl sz3 rfl (by omega) ?_
  simp only [List.set_cons_zero, List.set_cons_succ]
  refine vl_nil ?_
  refine (th_n ?_)
  refine VC_seq ?_
  rw [srcC_setMany (m + 1) hr]
  refine VC_region ?_
  refine vl_v (q_loads 1 Try.underlying27 rfl rfl rfl sz27 (by with_reducible assumption)) rfl ?_
  refine l_storeA 2 rfl rfl rfl sz27 (by with_reducible assumption) (by with_reducible first | exact bys_one _ | exact u32s_one _ | exact u64s_one _ | exact i64s_one _ | exact n64s_one _ | assumption) (by with_reducible assumption) ?_
  simp only [List.set_cons_zero, List.set_cons_succ]
  refine vl_nil ?_
  refine (th_n ?_)
  refine VC_ret ?_
  refine ⟨_, resC1 2 rfl Try.underlying27 rfl rfl rfl sz27 (by with_reducible assumption), ?_⟩
  exact ⟨rfl, _, _, _, rfl⟩
end Go.Proofs.Ytbgmejpmpfkiaaa
end
section
namespace Go.PBYtbgmejpmpfkiaaa
open Go Go.RowKit
def zB32 : List UInt8 := List.replicate 32 0
theorem zB32_length : zB32.length = 32 := by simp [zB32]
end Go.PBYtbgmejpmpfkiaaa
namespace Go.Proofs.Ytbgmejpmpfkiaaa
open Go.RowKit Go.PBYtbgmejpmpfkiaaa
set_option linter.unusedVariables false
set_option linter.unusedSimpArgs false
set_option maxRecDepth 10000
/-- the key of that number of a seed's source -/
def keyB (seed : List UInt8) (m : Nat) : List UInt8 := macB (sumB seed) (highB m 8)
theorem keyB_length (seed : List UInt8) (m : Nat) : (keyB seed m).length = 32 := macB_length _ _
/-- a source of a seed that told so many -/
def srcX (seed : List UInt8) (x : Option Addr × Nat) (m : Nat) : List Value := if m = 0 then srcC (.slice x.1 seed.length x.2) 0 0 zB32 0 else srcC nilS 1 0 (sumB seed) m
abbrev srcS (b : Nat) (seed : List UInt8) (x : Option Addr × Nat) (m : Nat) : List Res := [srcR b (srcX seed x m), bodyR 5 seed x]
theorem srcX_many (seed : List UInt8) (x : Option Addr × Nat) (m : Nat) : (srcX seed x m)[36]? = some (vN m) := by
  unfold srcX
  split
  · rename_i h; subst h; exact srcC_many zB32_length
  · exact srcC_many (sumB_length seed)
theorem mv2 {α : Type} (a b c : α) (r : List α) : (a :: b :: c :: r).Perm (b :: c :: a :: r) := (List.perm_middle (l₁ := [b, c])).symm
theorem skey_calls {w0 : World} {L : List Res} (b : Nat) (seed : List UInt8) (x : Option Addr × Nat) (m : Nat) (hs : seed.length ≤ 1000000) (hm : m ≤ 1000000) (w : World) (H : St [] w0 (srcS b seed x m ++ L) w) :
    Calls Try.prog 10 #[vP b 0] w fun e w' => e = .returned (.agg (bys (keyB seed m)).toArray) ∧ St [] w0 (srcS b seed x (m + 1) ++ L) w' := by
  have hc : seed.length ≤ x.2 := by
    obtain ⟨A, c, e, h, _⟩ := row_sl H 1 rfl
    cases e
    exact h
  have e2 : srcX seed x (m + 1) = srcC nilS 1 0 (sumB seed) (m + 1) := if_neg (by omega)
  show Calls _ _ _ _ fun e w' => e = _ ∧ St [] w0 (srcR b (srcX seed x (m + 1)) :: bodyR 5 seed x :: L) w'
  rw [e2]
  refine key_gen b (srcX seed x m) (sumB seed) (keyB seed m) m (sumB_length seed) hm rfl ?_ w H
  intro y w1 H1
  by_cases h0 : m = 0
  · subst h0
    rw [show srcX seed x 0 = srcC (.slice x.1 seed.length x.2) 0 0 zB32 0 from if_pos rfl] at H1
    exact do_first b seed x.1 seed.length x.2 zB32 0 rfl hc hs zB32_length (fun u w2 H2 => Reads.row 2 rfl w2 H2) w1 H1
  · rw [show srcX seed x m = srcC nilS 1 0 (sumB seed) m from if_neg h0] at H1
    exact do_done b _ _ _ m w1 H1
set_option maxHeartbeats 1000000 in
theorem spair_calls {w0 : World} {L : List Res} (b : Nat) (seed : List UInt8) (x : Option Addr × Nat) (m : Nat) (hs : seed.length ≤ 1000000) (hm : m ≤ 1000000) (w : World) (H : St [] w0 (srcS b seed x m ++ L) w) :
    Calls Try.prog 17 #[vP b 0] w fun e w' => e = .returned (.agg (bys (pairB (keyB seed m))).toArray) ∧ St [] w0 (srcS b seed x (m + 1) ++ L) w' := by
  have lk := keyB_length seed m
  have lp := pairB_length (keyB seed m)
  have hkc := fun (L : List Res) w1 H1 => skey_calls (L := L) (w0 := w0) b seed x m hs hm w1 H1
  obtain ⟨k, hk⟩ : ∃ k, keyB seed m = k := ⟨_, rfl⟩
  rw [hk] at lk lp hkc ⊢
  obtain ⟨p, hp⟩ : ∃ p, pairB k = p := ⟨_, rfl⟩
  have hpc := fun B m cb hm hb w hB hcb => pair_calls k B m cb hm hb w hB hcb
  rw [hp] at lp hpc ⊢
  clear hp hk
  obtain ⟨c0, e0⟩ : ∃ c0, srcX seed x m = c0 := ⟨_, rfl⟩
  obtain ⟨c1, e1⟩ : ∃ c1, srcX seed x (m + 1) = c1 := ⟨_, rfl⟩
  unfold srcS at H hkc ⊢
  rw [e0] at H hkc
  rw [e1] at hkc ⊢
  have lbk : (bys k).length = 32 := by rw [bys_length]; exact lk
  have lbp : (bys p).length = 64 := by rw [bys_length]; exact lp
  have lz : (bys (List.replicate 32 0)).length = 32 := by rw [bys_length, List.length_replicate]
  have lz2 : (bys (List.replicate 32 0) ++ bys (List.replicate 32 0)).length = 64 := by rw [List.length_append, lz]
  refine enter (n := 11) (R := fun e M => e = .returned (.agg (bys p).toArray) ∧ ∃ y z, M = y :: z :: srcR b c1 :: bodyR 5 seed x :: L) [vP b 0] Try.func17 rfl rfl rfl H ?_ (fun e w' L' h H => ⟨h.1, by obtain ⟨_, y, z, rfl⟩ := h; exact H.sub (.cons _ (.cons _ (List.Sublist.refl _)))⟩)
  refine VC_seq ?_
  refine VC_region ?_
  refine l_allocA zr33 rfl ?_
  intro b2
  refine vl_nil ?_
  refine (th_n ?_)
  refine VC_seq ?_
  refine VC_region ?_
  refine vl_v (q_move rfl) rfl ?_
  refine vl_v (q_makeFuncB rfl) rfl ?_
  refine vl_v (q_assign rfl) rfl ?_
  refine vl_nil ?_
  refine (th_n ?_)
  refine VC_seq ?_
  refine VC_region ?_
  refine vl_v (q_move rfl) rfl ?_
  refine l_cloB (first := [vP b 0]) (args := []) rfl Try.func10 rfl rfl rfl (fun w1 H1 => (hkc _ w1 (H1.perm (mv2 _ _ _ _))).mono fun e w' h => ⟨h.1, h.2.perm (mv2 _ _ _ _).symm⟩) rfl ?_
  refine l_allocA zr27 rfl ?_
  intro b4
  refine l_storeA 0 rfl rfl rfl sz27 (by with_reducible assumption) (by with_reducible first | exact bys_one _ | exact u32s_one _ | exact u64s_one _ | exact i64s_one _ | exact n64s_one _ | assumption) (by with_reducible assumption) ?_
  simp only [List.set_cons_zero, List.set_cons_succ]
  refine vl_nil ?_
  refine (th_n ?_)
  refine VC_seq ?_
  refine VC_region ?_
  refine vl_v (q_slcA Try.underlying27 sz5 rfl rfl rfl rfl (.inl rfl) (by omega) (by omega) (by omega) (by omega) (by (try simp only [Nat.mul_one, Nat.zero_add, Nat.zero_mul, Nat.mul_zero, Nat.add_zero]) <;> rfl)) rfl ?_
  refine vl_v (q_callV Try.func15 rfl rfl rfl (fun w1 H1 => hpc _ _ _ (by omega) (by omega) w1 (Reads.blk 0 rfl w1 H1) (by omega))) rfl ?_
  refine l_storeA 1 rfl rfl rfl sz33 (by with_reducible assumption) (by with_reducible first | exact bys_one _ | exact u32s_one _ | exact u64s_one _ | exact i64s_one _ | exact n64s_one _ | assumption) (by with_reducible assumption) ?_
  simp only [List.set_cons_zero, List.set_cons_succ]
  refine vl_nil ?_
  refine (th_n ?_)
  refine VC_ret ?_
  refine ⟨_, resC1 1 rfl Try.underlying33 rfl rfl rfl sz33 (by with_reducible assumption), ?_⟩
  exact ⟨rfl, _, _, rfl⟩
theorem many_aux {T : TypeId} (b : Nat) (c0 : List Value) (m : Nat) (gm : c0[36]? = some (vN m)) (w : World) (h : Res.ok w (.blk b T c0)) :
    Calls Try.prog 12 #[vP b 0] w fun e w' => e = .returned (vN m) ∧ Kept [] w w' := by
  obtain ⟨fz, hb, _⟩ := h
  have hc : SlAt w (some ⟨b, 0, none⟩) c0 := Blk.sl0 (T := T) ⟨fz, hb, ‹_›⟩
  refine enter (n := 7) (R := fun e L => e = .returned (vN m)) [vP b 0] Try.func12 rfl rfl rfl (St.refl w) ?_ (fun e w' L' h H => ⟨h, H.kept⟩)
  refine VC_seq ?_
  refine VC_region ?_
  refine vl_v (q_assign rfl) rfl ?_
  refine vl_nil ?_
  refine (th_n ?_)
  refine VC_seq ?_
  refine VC_region ?_
  refine vl_v (q_move rfl) rfl ?_
  refine vl_v (q_nilck rfl) rfl ?_
  refine vl_v (q_fldA fo57_3 (by decide) rfl rfl) rfl ?_
  refine vl_v (q_loadRd (A := some ⟨b, 0, none⟩) Try.underlying3 rfl rfl (Reads.old hc) gm) rfl ?_
  refine vl_v (q_assign rfl) rfl ?_
  refine vl_nil ?_
  refine (th_n ?_)
  refine VC_ret ?_
  refine ⟨_, res1 rfl rfl, ?_⟩
  exact rfl
theorem many_calls {w0 : World} {L : List Res} (b : Nat) (seed : List UInt8) (x : Option Addr × Nat) (m : Nat) (w : World) (H : St [] w0 (srcS b seed x m ++ L) w) :
    Calls Try.prog 12 #[vP b 0] w fun e w' => e = .returned (vN m) ∧ Kept [] w w' := by
  have gm := srcX_many seed x m
  unfold srcS at H
  obtain ⟨c0, e0⟩ : ∃ c0, srcX seed x m = c0 := ⟨_, rfl⟩
  rw [e0] at H gm
  refine many_aux b c0 m gm w (H.get (k := 0) rfl)
theorem snew_calls (seed : List UInt8) (B : Option Addr) (n k : Nat) (hn : n = seed.length) (hb : n ≤ 1000000) (w : World) (hB : SlAt w B (bys seed)) :
    Calls Try.prog 9 #[.slice B n k] w fun e w' => ∃ y : Nat × Option Addr × Nat, e = .returned (vP y.1 0) ∧ St [] w (srcS y.1 seed y.2 0) w' := by
  subst hn
  refine enter (n := 8) (R := fun e M => ∃ y : Nat × Option Addr × Nat, e = .returned (vP y.1 0) ∧ M = srcS y.1 seed y.2 0) [.slice B seed.length k] Try.func9 rfl rfl rfl (St.refl w) ?_ (fun e w' L' h H => by obtain ⟨y, h1, rfl⟩ := h; exact ⟨y, h1, H⟩)
  refine VC_seq ?_
  refine VC_region ?_
  refine vl_v (q_assign rfl) rfl ?_
  refine vl_nil ?_
  refine (th_n ?_)
  refine VC_seq ?_
  refine VC_region ?_
  refine l_litA (cs := bys []) Try.underlying22 in5 (by decide) rfl rfl rfl rfl (by exact one_all rfl) rfl rfl ?_
  intro b3
  refine vl_v (q_move rfl) rfl ?_
  refine l_append 0 rfl rfl rfl Try.underlying22 Try.underlying22 in5 rfl (by decide) (Reads.old hB) (by simp only [bys_length]; omega) (by with_reducible first | exact bys_one _ | exact u32s_one _ | exact u64s_one _ | exact i64s_one _ | exact n64s_one _ | assumption) (by omega) (by omega) rfl ?_
  intro A5 c5 hc5
  simp only [List.set_cons_zero, List.set_cons_succ, ← bys_append, ← u32s_append, ← u64s_append, ← i64s_append, List.nil_append, Nat.zero_add]
  refine vl_v (q_build (c' := srcC (.slice A5 seed.length c5) 0 0 zB32 0) rfl (by kernel_rfl)) rfl ?_
  refine l_boxA rfl rfl ?_
  intro b7
  refine vl_v (q_assign rfl) rfl ?_
  refine vl_nil ?_
  refine (th_n ?_)
  refine VC_ret ?_
  refine ⟨_, res1 rfl rfl, ?_⟩
  exact ⟨(_, _, _), rfl, rfl⟩
theorem rskey_calls (seed : List UInt8) (B : Option Addr) (n k m : Nat) (hn : n = seed.length) (hb : n ≤ 1000000) (hk : n ≤ k) (hm : m ≤ 1000000) (w : World) (hB : SlAt w B (bys seed)) :
    Calls Try.prog 11 #[.slice B n k, vN m] w fun e w' => e = .returned (.agg (bys (keyB seed m)).toArray) ∧ Kept [] w w' := by
  have ls := sumB_length seed
  have lk := keyB_length seed m
  have hsc := fun w hs => rsum_calls seed B n k hn (by omega) w hs (by omega)
  have e0 : keyB seed m = macB (sumB seed) (highB m 8) := rfl
  obtain ⟨s, hs⟩ : ∃ s, sumB seed = s := ⟨_, rfl⟩
  rw [hs] at ls hsc e0
  have lh := highB_length m 8
  have hhc := fun w => rhigh_calls m 8 8 rfl (by omega) (by omega) w
  obtain ⟨h8, hh8⟩ : ∃ h, highB m 8 = h := ⟨_, rfl⟩
  rw [hh8] at lh hhc e0
  have hdc := fun A c w hA hc => rdraw_calls s h8 A c 8 lh.symm ls (by omega) w hA hc
  rw [← e0] at hdc
  obtain ⟨q, hq⟩ : ∃ q, keyB seed m = q := ⟨_, rfl⟩
  rw [hq] at lk hdc ⊢
  have lbq : (bys q).length = 32 := by rw [bys_length]; exact lk
  have lz : (bys (List.replicate 32 0)).length = 32 := by rw [bys_length, List.length_replicate]
  refine enter (n := 11) (R := fun e L => e = .returned (.agg (bys q).toArray)) [.slice B n k, vN m] Try.func11 rfl rfl rfl (St.refl w) ?_ (fun e w' L' h H => ⟨h, H.kept⟩)
  refine VC_seq ?_
  refine VC_region ?_
  refine l_allocA zr27 rfl ?_
  intro b4
  refine vl_nil ?_
  refine (th_n ?_)
  refine VC_seq ?_
  refine VC_region ?_
  refine vl_v (q_move rfl) rfl ?_
  refine vl_v (q_callV Try.func23 rfl rfl rfl (fun w1 H1 => hsc w1 (Reads.old hB w1 H1))) rfl ?_
  refine vl_v (q_move rfl) rfl ?_
  refine vl_v (q_conv_nw Try.underlying3 Try.underlying61 rfl (by omega)) rfl ?_
  refine l_callR Try.func24 rfl rfl rfl (fun w1 H1 => hhc w1) rfl ?_
  intro A9 c9 hc9 hm9
  refine vl_v (q_callV Try.func22 rfl rfl rfl (fun w1 H1 => hdc _ _ w1 (Reads.row 0 rfl w1 H1) (by omega))) rfl ?_
  refine l_storeA 1 rfl rfl rfl sz27 (by with_reducible assumption) (by with_reducible first | exact bys_one _ | exact u32s_one _ | exact u64s_one _ | exact i64s_one _ | exact n64s_one _ | assumption) (by with_reducible assumption) ?_
  simp only [List.set_cons_zero, List.set_cons_succ]
  refine vl_nil ?_
  refine (th_n ?_)
  refine VC_ret ?_
  refine ⟨_, resC1 1 rfl Try.underlying27 rfl rfl rfl sz27 (by with_reducible assumption), ?_⟩
  exact rfl
end Go.Proofs.Ytbgmejpmpfkiaaa
end
section
namespace Go.PBYtbgmejpmpfkiaaa
open Go Go.RowKit
set_option linter.unusedVariables false
section
variable {P : Program} {n : Nat} {S : List Nat} {w0 : World} {env : Env} {L : List Res}
variable {d : Tmp} {ty : TypeId} {pos : String} {af : Array Edge} {g : Option (Nat × Bool)}
theorem run_eqPN {T e : TypeId} {ad : Addr} (hT : P.underlying T = some (.pointer e)) (w : World) : (Op.equal T (.pointer (some ad)) (.pointer none)).run P w = .ok false w := by
  show (Op.equalIn (9999 + 1) T (.pointer (some ad)) (.pointer none)).run P w = _
  unfold Op.equalIn
  simp [run_underlying hT]
theorem q_eqPN {T T' e : TypeId} {x y : Operand} {ad : Addr} (hT : P.underlying T = some (.pointer e)) (hx : evalE env x = some (.pointer (some ad))) (hy : evalE env y = some (.pointer none)) :
    QT P n S w0 { dst := some d, op := .binOp .eql T x y T', type := ty, pos, after := af, guard := g } env L (.val (.bool false)) :=
  q_bin hx hy fun w => by
    have h2 : eqGuard .eql T x y (.pointer (some ad)) (.pointer none) = pure () := rfl
    have h3 : binOp .eql T (.pointer (some ad)) (.pointer none) = (do pure (.bool (← Op.equal T (.pointer (some ad)) (.pointer none)))) := rfl
    rw [h2, h3]
    simp [run_eqPN hT]
theorem q_nePN {T T' e : TypeId} {x y : Operand} {ad : Addr} (hT : P.underlying T = some (.pointer e)) (hx : evalE env x = some (.pointer (some ad))) (hy : evalE env y = some (.pointer none)) :
    QT P n S w0 { dst := some d, op := .binOp .neq T x y T', type := ty, pos, after := af, guard := g } env L (.val (.bool true)) :=
  q_bin hx hy fun w => by
    have h2 : eqGuard .neq T x y (.pointer (some ad)) (.pointer none) = pure () := rfl
    have h3 : binOp .neq T (.pointer (some ad)) (.pointer none) = (do pure (.bool (!(← Op.equal T (.pointer (some ad)) (.pointer none))))) := rfl
    rw [h2, h3]
    simp [run_eqPN hT]
end
end Go.PBYtbgmejpmpfkiaaa
end
section
namespace Go.Proofs.Ytbgmejpmpfkiaaa
open Go.RowKit Go.PBYtbgmejpmpfkiaaa
set_option linter.unusedVariables false
set_option linter.unusedSimpArgs false
set_option maxRecDepth 10000
def PairV (v : Value) (l : List UInt8) : Prop := v = .agg (bys l).toArray ∧ l.length = 64
theorem open_pair {cs : List Value} (h : Fits cs (List.replicate 64 .u8)) : ∃ l, PairV (.agg cs.toArray) l := by
  obtain ⟨l, hl, rfl⟩ := h.bytes
  exact ⟨l, rfl, hl⟩
theorem key_first : ¬ keyB [120] 0 = List.replicate 32 0 := by decide +kernel
theorem com_zero : comB zB32 zB32 = zB32 := by
  unfold comB
  rw [show lf zB32 = 0 by decide +kernel, xm_zero]
  decide +kernel
theorem com_two (s t : List UInt8) : comB s (pubB t) = comB t (pubB s) := by
  unfold comB pubB
  rw [lf_kf, lf_kf, show lf (smallB 9) = fz 9 from lf_small 9, xm_two]
set_option maxHeartbeats 2000000 in
theorem awake8_calls (w : World) : Calls Try.prog 8 #[] w fun e w' => e = .returned (.bool true) ∧ Kept [] w w' := by
  have hz := zB32_length
  have lk := keyB_length [120] 0
  have hk1 := key_first
  have hcz := com_zero
  have hn := fun B n k hn hb w hB => snew_calls [120] B n k hn hb w hB
  have hkc := fun (L : List Res) (w0 : World) b x w H => skey_calls (L := L) (w0 := w0) b [120] x 0 (by decide) (by omega) w H
  have hmc := fun (L : List Res) (w0 : World) b x w H => many_calls (L := L) (w0 := w0) b [120] x 1 w H
  have hcc := fun w => com_calls zB32 zB32 zB32 hz hz hz w
  rw [hcz] at hcc
  have hce : comE zB32 = 12 := if_pos rfl
  rw [hce] at hcc
  obtain ⟨k, hk⟩ : ∃ k, keyB [120] 0 = k := ⟨_, rfl⟩
  rw [hk] at lk hk1 hkc
  clear hk hcz hce
  have lbk : (bys k).length = 32 := by rw [bys_length]; exact lk
  have lbz : (bys zB32).length = 32 := by rw [bys_length]; exact hz
  have lz : (bys (List.replicate 32 0)).length = 32 := by rw [bys_length, List.length_replicate]
  refine enter (n := 30) (R := fun e L => e = .returned (.bool true)) [] Try.func8 rfl rfl rfl (St.refl w) ?_ (fun e w' L' h H => ⟨h, H.kept⟩)
  refine VC_seq ?_
  refine VC_region ?_
  refine vl_v (q_assign rfl) rfl ?_
  refine vl_nil ?_
  refine (th_n ?_)
  refine VC_seq ?_
  refine VC_region ?_
  refine l_litA (cs := bys [UInt8.ofNat 120]) Try.underlying22 in5 (by decide) rfl rfl rfl rfl (by exact one_all rfl) rfl rfl ?_
  intro b5
  refine l_convS 0 Try.underlying22 Try.underlying5 rfl rfl rfl ?_
  refine l_callG Try.func9 rfl rfl rfl (fun w1 H1 => hn _ _ _ rfl (by decide) w1 (Reads.row 0 rfl w1 H1)) rfl ?_
  intro x7
  refine vl_v (q_assign rfl) rfl ?_
  refine vl_nil ?_
  refine (th_n ?_)
  refine VC_seq ?_
  refine VC_seq ?_
  refine VC_region ?_
  refine vl_v (q_move rfl) rfl ?_
  refine vl_v (q_eqPN Try.underlying24 rfl rfl) rfl ?_
  refine vl_nil ?_
  refine (th_n ?_)
  refine VC_no (rfl) ?_
  refine VC_skip ?_
  refine (th_n ?_)
  refine VC_seq ?_
  refine VC_region ?_
  refine vl_v (q_move rfl) rfl ?_
  refine l_callE Try.func10 rfl rfl rfl (fun w1 H1 => hkc _ _ _ _ w1 H1) rfl ?_
  refine l_allocA zr27 rfl ?_
  intro b2
  refine l_storeA 0 rfl rfl rfl sz27 (by with_reducible assumption) (by with_reducible first | exact bys_one _ | exact u32s_one _ | exact u64s_one _ | exact i64s_one _ | exact n64s_one _ | assumption) (by with_reducible assumption) ?_
  simp only [List.set_cons_zero, List.set_cons_succ]
  refine vl_nil ?_
  refine (th_n ?_)
  refine VC_seq ?_
  refine VC_region ?_
  refine vl_v (q_build (c' := bys (zB32 ++ zB32)) rfl (by kernel_rfl)) rfl ?_
  refine vl_v (q_build (c' := bys zB32) rfl (by kernel_rfl)) rfl ?_
  refine vl_v (q_callV Try.func13 rfl rfl rfl (fun w1 H1 => hcc w1)) rfl ?_
  refine vl_v (q_move rfl) rfl ?_
  refine vl_v (q_ext rfl rfl) rfl ?_
  refine vl_v (q_ext rfl rfl) rfl ?_
  refine l_allocA zr27 rfl ?_
  intro b3
  refine l_storeA 0 rfl rfl rfl sz27 (by with_reducible assumption) (by with_reducible first | exact bys_one _ | exact u32s_one _ | exact u64s_one _ | exact i64s_one _ | exact n64s_one _ | assumption) (by with_reducible assumption) ?_
  simp only [List.set_cons_zero, List.set_cons_succ]
  refine vl_v (q_assign rfl) rfl ?_
  refine vl_nil ?_
  refine (th_n ?_)
  refine VC_seq ?_
  refine VC_region ?_
  refine vl_v (q_loads 1 Try.underlying27 rfl rfl rfl sz27 (by with_reducible assumption)) rfl ?_
  refine vl_v (q_build (c' := bys (List.replicate 32 0)) rfl (by kernel_rfl)) rfl ?_
  refine vl_v (q_as (v := .bool true) (q_neB flat32 rfl rfl (fits_bys' lk) (fits_bys' (by simp))) (by rw [decide_eq_false hk1]; rfl)) rfl ?_
  refine vl_v (q_move rfl) rfl ?_
  refine vl_vg rfl (q_move rfl) rfl ?_
  refine vl_vg rfl (q_callV Try.func12 rfl rfl rfl (fun w1 H1 => hmc _ _ _ _ w1 (H1.pick (ks := [2, 3, 0, 1, 4]) (by decide) rfl))) rfl ?_
  refine vl_vg rfl (q_true (q_eql_n (q := 1) Try.underlying3 rfl rfl) (decide_eq_true rfl)) rfl ?_
  refine vl_v (q_pickT rfl rfl) rfl ?_
  refine vl_v (q_move rfl) rfl ?_
  refine vl_vg rfl (q_move rfl) rfl ?_
  refine vl_vg rfl (q_true (q_eql_n (q := 12) Try.underlying34 rfl rfl) (decide_eq_true rfl)) rfl ?_
  refine vl_v (q_pickT rfl rfl) rfl ?_
  refine vl_v (q_assign rfl) rfl ?_
  refine vl_nil ?_
  refine (th_n ?_)
  refine VC_ret ?_
  refine ⟨_, res1 rfl rfl, ?_⟩
  exact rfl
end Go.Proofs.Ytbgmejpmpfkiaaa
end
section
namespace Go.PBYtbgmejpmpfkiaaa
open Go Go.RowKit
set_option linter.unusedSimpArgs false
set_option linter.unusedVariables false
theorem run_append_empty {P : Program} (w : World) (t ty e : TypeId) (i : TypeInfo) (z : Value) (ht : P.underlying t = some (.slice e))
    (hi : P.info? e = some i) (hz : i.zero = some z) (hsize : i.size = 1) (hby : i.bytes = 1) (hzs : z.cells.size = 1)
    (g : Nat) (x : Value) (m : Nat) (news : List Value) (hl : news.length = m)
    (hlen : ∀ w', (Builtin.lenOf x).run P w' = .ok m w') (hc1 : (Builtin.firstCells 1 m x).run P w.drew = .ok news.toArray w.drew) (h1 : ∀ u ∈ news, u.oneCell' = true)
    (hm0 : 0 < m) (hmax : m ≤ 140737488355328) :
    ∃ v' w', (Builtin.append_ #[t, t] ty #[.slice (some ⟨g, 0, none⟩) 0 0, x]).run P w = .ok v' w' ∧ Row w' e 1 v' m news ∧ w.grownBy w' none ∧ v'.ownBlock = some w.heap.size := by
  have hml : m ≤ maxLen := by simp only [maxLen]; omega
  have grown : Row (w.drew.alloc (.cells (news.toArray ++ Builtin.zeroCells z.cells (grownCap w m 0 e - m)) e)) e 1
        (.slice (some ⟨w.heap.size, 0, none⟩) m (grownCap w m 0 e)) m news ∧
      w.grownBy (w.drew.alloc (.cells (news.toArray ++ Builtin.zeroCells z.cells (grownCap w m 0 e - m)) e)) none := by
    have hge := grownCap_ge w m 0 e
    have hcm : grownCap w m 0 e ≤ maxLen := grownCap_le_maxLen w m 0 e hml
    refine ⟨⟨by omega, .inr ⟨w.heap.size, _, (Builtin.zeroCells z.cells (grownCap w m 0 e - m)).toList, rfl, hge, hcm, ?_, ⟨(0, 0), ?_, ?_⟩⟩⟩, ⟨rfl, rfl, rfl, by simp, fun k hk _ => Below.heap_alloc w.drew _ k hk⟩⟩
    · rw [List.length_append, hl, Array.length_toList, appendZero, hzs]
      omega
    · have := heap_alloc_new w.drew (.cells (news.toArray ++ Builtin.zeroCells z.cells (grownCap w m 0 e - m)) e)
      rw [show w.drew.heap.size = w.heap.size from rfl] at this
      rw [this]
      congr 2
      apply Array.ext'
      simp
    · exact .inl rfl
  have hnext : ¬ (281474976710656 < Builtin.nextslicecap m 0 * i.bytes) := by
    have : Builtin.nextslicecap m 0 = m := by
      unfold Builtin.nextslicecap
      rw [if_pos (by omega)]
    rw [this, hby]
    omega
  have h63' : ¬ (9223372036854775807 < (m : Int)) := by omega
  refine ⟨_, _, ?_, grown.1, grown.2, rfl⟩
  have hold : (Builtin.firstCells 1 0 (.slice (some ⟨g, 0, none⟩) 0 0)).run P w.drew = .ok #[] w.drew := by
    have := run_loadCells_list (P := P) w.drew ⟨g, 0, none⟩ [] (fun j v hv => by simp at hv)
    exact this
  have hroom : ¬ m ≤ 0 := by omega
  have hm1 : ¬ m = 0 := by omega
  rw [hby] at hnext
  simp only [Nat.mul_one] at hnext
  simp [Builtin.append_, run_underlying ht, sizeOf, typeInfo, zeroValue, hi, hz, hsize, hby, hlen, hm1, hroom, h63', hnext, Question.forced, hold, hc1, newRow, grownCap]
section
variable {P : Program} {n : Nat} {S : List Nat} {w0 : World} {env : Env} {L : List Res}
variable {d : Tmp} {ty : TypeId} {pos : String} {af : Array Edge} {g : Option (Nat × Bool)}
theorem q_appendBig {t e : TypeId} {s x : Operand} {z : Value} {b m cx : Nat} {A : Option Addr} {news : List Value} (hs : evalE env s = some (.slice (some ⟨b, 0, none⟩) 0 0)) (hx : evalE env x = some (.slice A m cx)) (hu : P.underlying t = some (.slice e))
    (hi : (P.info? e).map (fun i => (i.zero, i.size, i.bytes)) = some (some z, 1, 1)) (hzs : z.cells.size = 1) (hA : Reads S w0 L A news) (hl : news.length = m) (h1 : ∀ u ∈ news, u.oneCell' = true) (h0 : 0 < m) (hmax : m ≤ 140737488355328) :
    QT P n S w0 { dst := some d, op := .call { callee := .builtin .append, args := #[s, x], argTypes := #[t, t] }, type := ty, pos, after := af, guard := g } env L (.any (isSl m) (nRow e 1 m news)) :=
  ⟨fun a w hm H => by
    obtain ⟨i, hi, hz', h1', h2'⟩ := info_parts hi
    obtain ⟨v', w', hr, hrow, hg, hat⟩ := run_append_empty (P := P) w t ty e i z hu hi hz' h1' h2' hzs b (.slice A m cx) m news hl (fun w' => rfl) (cellsOfSl (size := 1) (hA w H) (by omega) 1) h1 h0 hmax
    refine opw_val (v := v') (w' := w') (by simp only [BigFrame.execOp_builtin, BigFrame.builtin_append, List.map_toArray, List.map_cons, List.map_nil, hm.eval hs, hm.eval hx, Sem.run_bind, hr, Result.andThen_ok, Sem.run_pure]) ?_
    obtain ⟨B, c, rfl, hc, hcm, _⟩ := Row.slice hrow
    exact ⟨_, rfl, fun h => by simp at h, ⟨B, c, rfl, hc, hcm⟩, (St.refl w).add hg hrow (fun b hb => by simp only [Res.at] at hb; rw [hb] at hat; simp only [Option.some.injEq] at hat; omega)⟩⟩
end
end Go.PBYtbgmejpmpfkiaaa
end
section
namespace Go.PBYtbgmejpmpfkiaaa
open Go Go.RowKit Go.ChangeShapes Go.WideShapes Go.ChangeAt
set_option linter.unusedVariables false
section
variable {H : Type} {enc : TypeId × Value → H} {P : Program} {w : World} {r : Reach} {b0 : Nat}
def BsArgB (w : World) (v : Value) (l : List UInt8) : Prop := BsArg w v l ∧ l.length ≤ 140737488355328
theorem open_bytesB {t e : TypeId} {v : Value} {d : DataW H} {p : List MemPlace} (ht : P.underlying t = some (.slice e)) (he : P.underlying e = some (.int .u8)) (hc : P.cellsOf e = 1) (hb : P.bytesOf e = 1)
    (hsz : ∀ a b : List (DataW H), d = .slice a b → (a.length + b.length) * P.bytesOf e ≤ reachBytes)
    (hv : Value.okWide P w r b0 t v) (h : DataW.Trod enc P w 0 (fun _ => true) true t v d p) : ∃ l, BsArgB w v l := by
  obtain ⟨l, hl⟩ := open_bytes ht he hc hv h
  refine ⟨l, hl, ?_⟩
  obtain ⟨A, c, rfl, hc1, hc2, hs⟩ := hl
  obtain ⟨fuel, hf⟩ := h
  rcases open_ints ht he hc hf with ⟨hcs, _⟩ | ⟨x, len, cap, zs, hcs, _, hlen, hm, hz, hx, hcell, hwz⟩
  · simp [Value.cells] at hcs
    simp [hcs.2.1]
  · simp [Value.cells] at hcs
    obtain ⟨_, rfl, rfl⟩ := hcs
    have h1 := hsz _ _ (congrArg Prod.fst hx)
    have h2 : (lits .u8 (zs.take l.length) : List (DataW H)).length = l.length := by
      simp only [if_true] at hz
      simp [lits]
      omega
    rw [hb, Nat.mul_one, h2] at h1
    have h3 := reachBytes_lt
    omega
/-- whole numbers as an argument -/
def IsArg (w : World) (v : Value) (l : List Int) : Prop := ∃ A c, v = .slice A l.length c ∧ l.length ≤ c ∧ SlAt w A (i64s l)
theorem open_i64s {t e : TypeId} {v : Value} {d : DataW H} {p : List MemPlace} (ht : P.underlying t = some (.slice e)) (he : P.underlying e = some (.int .i64)) (hc : P.cellsOf e = 1)
    (hv : Value.okWide P w r b0 t v) (h : DataW.Trod enc P w 0 (fun _ => true) true t v d p) : ∃ l, IsArg w v l := by
  obtain ⟨a, len, cap, rfl⟩ := okWide_slice ht hv
  obtain ⟨fuel, hf⟩ := h
  rcases open_ints ht he hc hf with ⟨hcs, _⟩ | ⟨x, l, c, zs, hcs, _, hl, hm, hz, _, hcell, hwz⟩
  · simp [Value.cells] at hcs
    obtain ⟨rfl, rfl, rfl⟩ := hcs
    exact ⟨[], none, 0, rfl, Nat.le_refl _, SlAt.nil _ _⟩
  · simp [Value.cells] at hcs
    obtain ⟨rfl, rfl, rfl⟩ := hcs
    simp only [if_true] at hz
    have e : (zs.take len).length = len := by rw [List.length_take]; omega
    refine ⟨zs.take len, some x, cap, by rw [e], by rw [e]; exact hl, ?_⟩
    intro j v hj
    have hj' : j < (zs.take len).length := by have := (List.getElem?_eq_some_iff.1 hj).1; rwa [i64s_length] at this
    refine ⟨x, rfl, ?_⟩
    rw [hcell j (by rw [List.length_take] at hj'; omega), ← hj, i64s_at hj']
    congr 2
    rw [List.getD_eq_getElem?_getD, List.getD_eq_getElem?_getD, List.getElem?_take, if_pos (by omega)]
end
end Go.PBYtbgmejpmpfkiaaa
namespace Go.Proofs.Ytbgmejpmpfkiaaa
open Go.RowKit Go.PBYtbgmejpmpfkiaaa
set_option linter.unusedVariables false
set_option linter.unusedSimpArgs false
set_option maxRecDepth 10000
theorem snew_big (seed : List UInt8) (B : Option Addr) (k : Nat) (h0 : 0 < seed.length) (hb : seed.length ≤ 140737488355328) (w : World) (hB : SlAt w B (bys seed)) :
    Calls Try.prog 9 #[.slice B seed.length k] w fun e w' => ∃ b : Nat, e = .returned (vP b 0) ∧ St [] w [] w' := by
  refine enter (n := 8) (R := fun e M => ∃ b : Nat, e = .returned (vP b 0)) [.slice B seed.length k] Try.func9 rfl rfl rfl (St.refl w) ?_ (fun e w' L' h H => by obtain ⟨b, h1⟩ := h; exact ⟨b, h1, H.drop⟩)
  refine VC_seq ?_
  refine VC_region ?_
  refine vl_v (q_assign rfl) rfl ?_
  refine vl_nil ?_
  refine (th_n ?_)
  refine VC_seq ?_
  refine VC_region ?_
  refine l_litA (cs := bys []) Try.underlying22 in5 (by decide) rfl rfl rfl rfl (by exact one_all rfl) rfl rfl ?_
  intro b3
  refine vl_v (q_move rfl) rfl ?_
  refine vl_q (q_appendBig rfl rfl Try.underlying22 in5 rfl (Reads.old hB) (bys_length _) (bys_one _) h0 hb) trivial rfl ?_
  rintro _ ⟨A5, c5, rfl, hc5, _⟩
  refine vl_v (q_build (c' := srcC (.slice A5 seed.length c5) 0 0 zB32 0) rfl (by kernel_rfl)) rfl ?_
  refine l_boxA rfl rfl ?_
  intro b7
  refine vl_v (q_assign rfl) rfl ?_
  refine vl_nil ?_
  refine (th_n ?_)
  refine VC_ret ?_
  refine ⟨_, res1 rfl rfl, ?_⟩
  exact ⟨_, rfl⟩
end Go.Proofs.Ytbgmejpmpfkiaaa
end
