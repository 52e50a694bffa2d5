/- The laws of the walk at single operations, over what is owned. No condition. -/
import Derived.Test.YtngdppffcdhhlaaPO
namespace Go.PBYtngdppffcdhhlaa
open Go Go.RowKit
set_option linter.unusedSimpArgs false
set_option linter.unusedVariables false

/-- bytes as cells -/
def bys (l : List UInt8) : List Value := l.map fun x => .int .u8 (x.toNat : Int)
theorem bys_length (l : List UInt8) : (bys l).length = l.length := by simp [bys]
theorem bys_append (l m : List UInt8) : bys (l ++ m) = bys l ++ bys m := by simp [bys]
theorem bys_get (l : List UInt8) (i : Nat) : (bys l)[i]? = (l[i]?).map fun x => .int .u8 (x.toNat : Int) := by simp [bys]
theorem bys_take (l : List UInt8) (n : Nat) : (bys l).take n = bys (l.take n) := by simp [bys]
theorem bys_drop (l : List UInt8) (n : Nat) : (bys l).drop n = bys (l.drop n) := by simp [bys]
theorem bys_one (l : List UInt8) : ∀ v ∈ bys l, v.oneCell' = true := by
  intro v hv
  obtain ⟨x, _, rfl⟩ := List.mem_map.1 hv
  rfl

section
variable {P : Program} {ops : Array Oper} {rest : List Oper} {a : Act} {w w0 : World} {Q : Exit → Act → World → Prop} {S : List Nat} {L : List Res}
variable {dst : Option Tmp} {ty : TypeId} {pos : String} {af : Array Edge} {g : Option (Nat × Bool)} {o : Oper}

theorem wpl_want (hw : Region.wanted o (yielded ops a.tmps) = true) (h : o.wp P a w (wpList P ops Q rest) Q) : wpList P ops Q (o :: rest) a w := by
  unfold wpList
  rw [if_pos hw]
  exact .inl h

theorem opw_val {K : Act → World → Prop} {v : Value} {w' : World} (hr : (execOp a.eval o).run P w = .ok (.value v) w') (h : K (a.put o.dst v) w') : o.wp P a w K Q := by
  unfold Oper.wp
  rw [hr]
  exact h
theorem opw_skip {K : Act → World → Prop} {w' : World} (hr : (execOp a.eval o).run P w = .ok .skip w') (h : K (a.put o.dst undef) w') : o.wp P a w K Q := by
  unfold Oper.wp
  rw [hr]
  exact h

/-- a new variable that holds a value -/
theorem opw_box {K : Act → World → Prop} {e : TypeId} {x : Operand} {c : List Value} (H : St S w0 L w) (hx : (a.eval x).cells.toList = c)
    (h : ∀ w' b, St S w0 (L ++ [.blk b e c]) w' → K (a.put dst (.pointer (some ⟨b, 0, none⟩))) w') : Oper.wp P { dst, op := .box e x, type := ty, pos, after := af, guard := g } a w K Q := by
  subst hx
  refine opw_val (v := .pointer (some ⟨w.heap.size, 0, none⟩)) (w' := w.alloc (.cells (a.eval x).cells e)) (by simp [execOp, Instr.box, newVar, newRow]) ?_
  refine h _ _ (H.add (World.grownBy_alloc w _ none) ⟨(0, 0), ?_, .inl rfl⟩ (by simp [Res.at]))
  simpa using heap_alloc_new w (.cells (a.eval x).cells e)

/-- a new variable -/
theorem opw_alloc {K : Act → World → Prop} {e : TypeId} {i : TypeInfo} {z : Value} (H : St S w0 L w) (hi : P.info? e = some i) (hz : i.zero = some z)
    (h : ∀ w' b, St S w0 (L ++ [.blk b e z.cells.toList]) w' → K (a.put dst (.pointer (some ⟨b, 0, none⟩))) w') : Oper.wp P { dst, op := .alloc e, type := ty, pos, after := af, guard := g } a w K Q := by
  refine opw_val (v := .pointer (some ⟨w.heap.size, 0, none⟩)) (w' := w.alloc (.cells z.cells e)) (by simp [execOp, Instr.alloc, zeroValue, typeInfo, hi, hz, newVar, newRow]) ?_
  refine h _ _ (H.add (World.grownBy_alloc w _ none) ⟨(0, 0), ?_, .inl rfl⟩ (by simp [Res.at]))
  simpa using heap_alloc_new w (.cells z.cells e)

/-- a call -/
theorem opw_call {K : Act → World → Prop} {f : FuncId} {fn : Func} {xs : Array Operand} {ats : Array TypeId} (args : List Value) (hf : P.funcs[f]? = some fn) (hb : fn.body.isSome = true) (hn : (fn.name == "runtime.NumGoroutine") = false) (hargs : xs.toList.map a.eval = args)
    (hc : Calls P f args.toArray w (fun e w' => ∃ v, e = .returned v ∧ K (a.put dst v) w')) : Oper.wp P { dst, op := .call { callee := .value (.func f), args := xs, argTypes := ats }, type := ty, pos, after := af, guard := g } a w K Q := by
  unfold Oper.wp
  have hbn : ¬ fn.body = none := by intro h; rw [h] at hb; cases hb
  have hn' : ¬ fn.name = "runtime.NumGoroutine" := by intro h; rw [h] at hn; simp at hn
  have e1 : (callFunc f args.toArray).run P w = .ok (.enter f args.toArray) w := by
    simp [callFunc, hf, hn', hbn]
  have e2 : (#[] ++ xs.map a.eval ++ #[] : Array Value) = args.toArray := by
    rw [← hargs]
    apply Array.ext'
    simp
  rw [execOp_call_go, e2, e1]
  refine hc.mono ?_
  rintro e w' ⟨v, rfl, h⟩
  exact h

/-- one cell is read -/
theorem opw_load {K : Act → World → Prop} {t : TypeId} {x : Operand} {d : TypeDesc} {ad : Addr} {v : Value} (hu : P.underlying t = some d) (hd : (match d with | .struct _ | .array _ _ => true | _ => false) = false)
    (hx : a.eval x = .pointer (some ad)) (hc : w.cell? ad = some v) (h : K (a.put dst v) w) : Oper.wp P { dst, op := .load t x, type := ty, pos, after := af, guard := g } a w K Q := by
  have hagg : (isAgg t).run P w = .ok false w := by
    unfold isAgg
    rw [Sem.run_bind, run_underlying hu w]
    cases d <;> simp_all
  exact opw_val (v := v) (w' := w) (by simp [execOp, hx, Instr.loadAt, Instr.sureAddr, loadVar, hagg, hc]) h

/-- a whole array or struct is read -/
theorem opw_loads {K : Act → World → Prop} {t : TypeId} {x : Operand} {d : TypeDesc} {ad : Addr} {c : List Value} (hu : P.underlying t = some d) (hd : (match d with | .struct _ | .array _ _ => true | _ => false) = true)
    (hi : (P.info? t).map (·.size) = some c.length) (hx : a.eval x = .pointer (some ad)) (hc : SlAt w (some ad) c) (h : K (a.put dst (.agg c.toArray)) w) :
    Oper.wp P { dst, op := .load t x, type := ty, pos, after := af, guard := g } a w K Q := by
  have hagg : (isAgg t).run P w = .ok true w := by
    unfold isAgg
    rw [Sem.run_bind, run_underlying hu w]
    cases d <;> simp_all
  have hl := run_loadCells_list (P := P) w ad c (fun j v hv => hc.get hv)
  cases hq : P.info? t with
  | none => simp [hq] at hi
  | some i =>
    have hs : i.size = c.length := by simpa [hq] using hi
    exact opw_val (v := .agg c.toArray) (w' := w) (by simp [execOp, hx, Instr.loadAt, Instr.sureAddr, loadVar, hagg, sizeOf, typeInfo, hq, hs, hl]) h

/-- cells are stored (one, or an array's, or a struct's) -/
theorem opw_store {K : Act → World → Prop} {t : TypeId} {x y : Operand} {k b j : Nat} {T : TypeId} {c vs : List Value} (H : St S w0 L w) (hk : L[k]? = some (.blk b T c)) (hx : a.eval x = .pointer (some ⟨b, j, none⟩))
    (hv : (a.eval y).cells.toList = vs) (hi : (P.info? t).map (·.size) = some vs.length) (hl : j + vs.length ≤ c.length) (h1 : ∀ v ∈ vs, v.oneCell' = true)
    (h : ∀ w', St S w0 (L.set k (.blk b T (splice c j vs))) w' → K (a.put dst undef) w') : Oper.wp P { dst, op := .store t x y, type := ty, pos, after := af, guard := g } a w K Q := by
  have hst := run_storeCells_blk P (H.blk hk) j vs hl h1
  cases hq : P.info? t with
  | none => simp [hq] at hi
  | some i =>
    have hs : i.size = vs.length := by simpa [hq] using hi
    have hcs : (a.eval y).cells.size = vs.length := by rw [← hv]; simp
    refine opw_skip (w' := w.setRow b (splice c j vs).toArray) (by simp [execOp, hx, Instr.storeAt, Instr.sureAddr, storeVar, sizeOf, typeInfo, hq, hs, hcs, hv, hst]) ?_
    refine h _ (H.change hk (grownBy_setRow w b _) (setRow_blk (H.blk hk) (length_splice _ _ _ hl)) (fun b' hb' => .inl hb'))

/-- one cell is stored: v is given -/
theorem opw_store1 {K : Act → World → Prop} {t : TypeId} {x y : Operand} {k b j : Nat} {T : TypeId} {c : List Value} (v : Value) (H : St S w0 L w) (hk : L[k]? = some (.blk b T c)) (hx : a.eval x = .pointer (some ⟨b, j, none⟩))
    (hv : a.eval y = v) (hi : (P.info? t).map (·.size) = some 1) (hl : j < c.length) (h1 : v.oneCell' = true)
    (h : ∀ w', St S w0 (L.set k (.blk b T (splice c j [v]))) w' → K (a.put dst undef) w') : Oper.wp P { dst, op := .store t x y, type := ty, pos, after := af, guard := g } a w K Q :=
  opw_store (vs := [v]) H hk hx (by rw [hv]; cases v <;> first | rfl | (simp [Value.oneCell'] at h1; done)) hi (by simp; omega) (by simpa using h1) h

/-- make of n elements of one cell -/
theorem opw_make {K : Act → World → Prop} {t e : TypeId} {l c : Operand} {z : Value} {bytes n : Nat} {kl kc : IntKind} (H : St S w0 L w) (hu : P.underlying t = some (.slice e))
    (hi : (P.info? e).map (fun i => (i.zero, i.size, i.bytes)) = some (some z, 1, bytes)) (hz : z.oneCell' = true) (hl : a.eval l = .int kl (n : Int)) (hc : a.eval c = .int kc (n : Int))
    (hb : bytes * n ≤ 281474976710656) (hm : n ≤ maxLen) (h : ∀ w' b, St S w0 (L ++ [.blk b e (List.replicate n z)]) w' → K (a.put dst (.slice (some ⟨b, 0, none⟩) n n)) w') :
    Oper.wp P { dst, op := .makeSlice t l c, type := ty, pos, after := af, guard := g } a w K Q := by
  obtain ⟨i, hi', hz', h1, h2⟩ := info_parts hi
  subst h2
  have hb' : (i.bytes : Int) * (n : Int) ≤ 281474976710656 := by
    have h : ((i.bytes * n : Nat) : Int) ≤ 281474976710656 := by omega
    rwa [Int.natCast_mul] at h
  have hr := run_make (P := P) w t e i z hu hi' hz' kl kc n n (by omega) (Int.le_refl _) hb' (by simp only [maxLen] at hm; omega)
  simp only [Int.toNat_natCast, h1, Nat.mul_one] at hr
  have hcs : z.cells = #[z] := by cases z <;> first | rfl | (simp [Value.oneCell'] at hz; done)
  have hmc : madeCells z.cells n = (List.replicate n z).toArray := by
    rw [hcs]
    apply Array.ext'
    simp only [madeCells]
    apply List.ext_getElem
    · simp
    · intro j h1 h2
      simp [Nat.mod_one]
  rw [hmc] at hr
  refine opw_val (v := .slice (some ⟨w.heap.size, 0, none⟩) n n) (by simp [execOp, hl, hc, hr]; rfl) ?_
  refine h _ _ (H.add (World.grownBy_alloc w _ none) ⟨(0, 0), ?_, .inl rfl⟩ (by simp [Res.at]))
  exact heap_alloc_new w _

/-- make of no elements, with room for n -/
theorem opw_room {K : Act → World → Prop} {t e : TypeId} {l c : Operand} {z : Value} {size bytes n : Nat} {kl kc : IntKind} (H : St S w0 L w) (hu : P.underlying t = some (.slice e))
    (hi : (P.info? e).map (fun i => (i.zero, i.size, i.bytes)) = some (some z, size, bytes)) (hl : a.eval l = .int kl 0) (hc : a.eval c = .int kc (n : Int))
    (hb : bytes * n ≤ 281474976710656) (hm : n ≤ maxLen) (h : ∀ w' b, St S w0 (L ++ [.row e size (.slice (some ⟨b, 0, none⟩) 0 n) 0 []]) w' → K (a.put dst (.slice (some ⟨b, 0, none⟩) 0 n)) w') :
    Oper.wp P { dst, op := .makeSlice t l c, type := ty, pos, after := af, guard := g } a w K Q := by
  obtain ⟨i, hi', hz', h1, h2⟩ := info_parts hi
  subst h2
  subst h1
  have hb' : (i.bytes : Int) * (n : Int) ≤ 281474976710656 := by
    have h : ((i.bytes * n : Nat) : Int) ≤ 281474976710656 := by omega
    rwa [Int.natCast_mul] at h
  have hr := run_make (P := P) w t e i z hu hi' hz' kl kc 0 n (Int.le_refl _) (by omega) hb' (by simp only [maxLen] at hm; omega)
  simp only [Int.toNat_natCast, Int.toNat_zero] at hr
  refine opw_val (v := .slice (some ⟨w.heap.size, 0, none⟩) 0 n) (by simp [execOp, hl, hc, hr]; rfl) ?_
  refine h _ _ (H.add (World.grownBy_alloc w _ none) ⟨by simp, .inr ⟨w.heap.size, n, (madeCells z.cells (n * i.size)).toList, rfl, Nat.zero_le _, hm, ?_, ⟨(0, 0), ?_, .inl rfl⟩⟩⟩ (by simp [Res.at, Value.ownBlock]))
  · simp [size_madeCells]
  · simpa using heap_alloc_new w (.cells (madeCells z.cells (n * i.size)) e)

/-- a slice that is written out -/
theorem opw_lit {K : Act → World → Prop} {t e : TypeId} {n size bytes : Nat} {pr : Array (Nat × Operand)} {z : Value} (cs : List Value) (H : St S w0 L w) (hu : P.underlying t = some (.slice e))
    (hi : (P.info? e).map (fun i => (i.zero, i.size, i.bytes)) = some (some z, size, bytes)) (hsm : n * size ≤ 16777216)
    (hf : Instr.fill (fun i => some (i * size, size)) (if n * size = 0 then #[] else (Array.range (n * size)).map (z.cells[· % z.cells.size]!)) (pr.map fun (i, x) => (i, a.eval x)).toList = some cs.toArray)
    (hl : cs.length = n * size) (hm : n ≤ maxLen)
    (h : ∀ w' b, St S w0 (L ++ [.row e size (.slice (some ⟨b, 0, none⟩) n n) n cs]) w' → K (a.put dst (.slice (some ⟨b, 0, none⟩) n n)) w') : Oper.wp P { dst, op := .buildSlice t n pr, type := ty, pos, after := af, guard := g } a w K Q := by
  obtain ⟨i, hi', hz', h1', h2'⟩ := info_parts hi
  subst h1'
  have hsm' : ¬ (16777216 < n * i.size) := by omega
  refine opw_val (v := .slice (some ⟨w.heap.size, 0, none⟩) n n) (w' := w.alloc (.cells cs.toArray e)) ?_ ?_
  · by_cases h0 : n * i.size = 0
    · simp only [h0, if_true] at hf
      simp [execOp, Instr.buildSlice, run_underlying hu, sizeOf, typeInfo, hi', h0, newRow, Array.range_zero']
      have hf' := hf
      simp only [Array.toList_map] at hf'
      rw [hf']
      rfl
    · simp only [h0, if_false] at hf
      simp [execOp, Instr.buildSlice, run_underlying hu, sizeOf, typeInfo, hi', h0, hsm', newRow, zeroValue, hz']
      have hf' := hf
      simp only [Array.toList_map] at hf'
      rw [hf']
      rfl
  · refine h _ _ (H.add (World.grownBy_alloc w _ none) (Row.of_blk ⟨(0, 0), heap_alloc_new w _, .inl rfl⟩ hl hm) (by simp [Res.at, Value.ownBlock]))

/-- cells that are set one by one -/
def fillL (c : List Value) : List (Nat × Value) → List Value
  | [] => c
  | p :: r => fillL (c.set p.1 p.2) r
theorem fillL_length : ∀ (l : List (Nat × Value)) (c : List Value), (fillL c l).length = c.length
  | [], _ => rfl
  | p :: r, c => by rw [fillL, fillL_length r]; simp
theorem fill_one : ∀ (l : List (Nat × Value)) (c : List Value), (∀ p ∈ l, p.2.oneCell' = true ∧ p.1 < c.length) → Instr.fill (fun i => some (i * 1, 1)) c.toArray l = some (fillL c l).toArray
  | [], _, _ => rfl
  | (i, v) :: r, c, h => by
    have hv := (h (i, v) (by simp)).1
    have hi := (h (i, v) (by simp)).2
    have hcs : v.cells = #[v] := by cases v <;> first | rfl | (simp [Value.oneCell'] at hv; done)
    simp only at hi
    have hlt : ¬ (c.length < i + 1) := by omega
    have ih := fill_one r (c.set i v) (fun p hp => by have := h p (by simp [hp]); simpa using this)
    simp only [Instr.fill, hcs]
    simp [hlt, fillL]
    simpa using ih

/-- a slice of elements of one cell that is written out -/
theorem opw_lit1 {K : Act → World → Prop} {t e : TypeId} {n bytes : Nat} {pr : Array (Nat × Operand)} {z : Value} (ps : List (Nat × Value)) (H : St S w0 L w) (hu : P.underlying t = some (.slice e))
    (hi : (P.info? e).map (fun i => (i.zero, i.size, i.bytes)) = some (some z, 1, bytes)) (hsm : n ≤ 16777216) (hz : z.oneCell' = true)
    (hp : (pr.toList.map fun p => (p.1, a.eval p.2)) = ps) (h1 : ∀ p ∈ ps, p.2.oneCell' = true ∧ p.1 < n)
    (h : ∀ w' b, St S w0 (L ++ [.row e 1 (.slice (some ⟨b, 0, none⟩) n n) n (fillL (List.replicate n z) ps)]) w' → K (a.put dst (.slice (some ⟨b, 0, none⟩) n n)) w') : Oper.wp P { dst, op := .buildSlice t n pr, type := ty, pos, after := af, guard := g } a w K Q := by
  have hcs : z.cells = #[z] := by cases z <;> first | rfl | (simp [Value.oneCell'] at hz; done)
  have hz : (if n * 1 = 0 then #[] else (Array.range (n * 1)).map (z.cells[· % z.cells.size]!)) = (List.replicate n z).toArray := by
    split
    · rename_i h0
      have : n = 0 := by omega
      subst this
      rfl
    · rw [hcs, Nat.mul_one]
      apply Array.ext'
      apply List.ext_getElem
      · simp
      · intro j h1 h2
        simp [Nat.mod_one]
  refine opw_lit (fillL (List.replicate n z) ps) H hu hi (by omega) ?_ (by rw [fillL_length]; simp) (by simp only [maxLen]; omega) h
  rw [hz, Array.toList_map]
  have e : (pr.toList.map fun x => match x with | (i, x) => (i, a.eval x)) = ps := by rw [← hp]
  rw [e]
  exact fill_one ps _ (by simpa using h1)

/-- append of a slice's elements to what is owned -/
theorem opw_append {K : Act → World → Prop} {t tx e : TypeId} {s x : Operand} {z : Value} {size bytes n m cx k : Nat} {v : Value} {xs news : List Value} {A : Option Addr} (H : St S w0 L w)
    (hk : L[k]? = some (.row e size v n xs)) (hu : P.underlying t = some (.slice e)) (htx : P.underlying tx = some (.slice e))
    (hi : (P.info? e).map (fun i => (i.zero, i.size, i.bytes)) = some (some z, size, bytes)) (hzs : z.cells.size = size) (hb1 : bytes ≤ 1099511627776)
    (hs : a.eval s = v) (hx : a.eval x = .slice A m cx) (hA : SlAt w A news) (hl : news.length = m * size) (h1 : ∀ u ∈ news, u.oneCell' = true)
    (hbytes : (n + m) * bytes ≤ 70368744177664) (hmax : n + m ≤ 70368744177664)
    (h : ∀ w' v', St S w0 (L.set k (.row e size v' (n + m) (xs ++ news))) w' → K (a.put dst v') w') :
    Oper.wp P { dst, op := .call { callee := .builtin .append, args := #[s, x], argTypes := #[t, tx] }, type := ty, pos, after := af, guard := g } a w K Q := by
  obtain ⟨i, hi, hz', h1', h2'⟩ := info_parts hi
  have hcells : ∀ k, (Builtin.firstCells size m (.slice A m cx)).run P (w.drewN k) = .ok news.toArray (w.drewN k) := by
    intro j
    cases A with
    | none =>
      have : news = [] := by
        cases news with
        | nil => rfl
        | cons u r => obtain ⟨a', e, _⟩ := hA 0 u rfl; simp at e
      subst this
      rfl
    | some ad =>
      have := run_loadCells_list (P := P) (w.drewN j) ad news (fun i u hu => hA.get hu)
      rw [hl] at this
      exact this
  obtain ⟨v', w', hr, hrow, hg, hat⟩ := run_append_row (P := P) w t tx ty e i z size bytes hu (.slice e) htx (.inl rfl) hi hz' h1' h2' hzs v n xs (H.get hk) (.slice A m cx) m news hl (fun w' => rfl) hcells h1 hbytes hmax hb1
  refine opw_val (v := v') (w' := w') (by simp only [BigFrame.execOp_builtin, BigFrame.builtin_append, List.map_toArray, List.map_cons, List.map_nil, hs, hx, Sem.run_bind, hr, Result.andThen_ok, Sem.run_pure]) ?_
  refine h _ _ (H.change hk hg hrow ?_)
  intro b hb
  simp only [Res.at] at hb ⊢
  rcases hat with e | e
  · exact .inl (e ▸ hb)
  · rw [hb] at e; simp only [Option.some.injEq] at e; exact .inr (by omega)

/-- append of a string's bytes to what is owned -/
theorem opw_appendS {K : Act → World → Prop} {t tx e : TypeId} {s x : Operand} {bytes n k : Nat} {z v : Value} {xs : List Value} {str : ByteArray} (H : St S w0 L w)
    (hk : L[k]? = some (.row e 1 v n xs)) (hu : P.underlying t = some (.slice e)) (htx : P.underlying tx = some .string)
    (hi : (P.info? e).map (fun i => (i.zero, i.size, i.bytes)) = some (some z, 1, bytes)) (hzs : z.cells.size = 1) (hb1 : bytes ≤ 1099511627776)
    (hs : a.eval s = v) (hx : a.eval x = .string str)
    (hbytes : (n + str.size) * bytes ≤ 70368744177664) (hmax : n + str.size ≤ 70368744177664)
    (h : ∀ w' v', St S w0 (L.set k (.row e 1 v' (n + str.size) (xs ++ bys str.data.toList))) w' → K (a.put dst v') w') :
    Oper.wp P { dst, op := .call { callee := .builtin .append, args := #[s, x], argTypes := #[t, tx] }, type := ty, pos, after := af, guard := g } a w K Q := by
  obtain ⟨i, hi, hz', h1', h2'⟩ := info_parts hi
  have hcells : ∀ k, (Builtin.firstCells 1 str.size (.string str)).run P (w.drewN k) = .ok (bys str.data.toList).toArray (w.drewN k) := by
    intro j
    have : str.extract 0 str.size = str := by
      apply ByteArray.ext
      simp
    simp [Builtin.firstCells, this, bys]
    apply Array.ext'
    simp
  obtain ⟨v', w', hr, hrow, hg, hat⟩ := run_append_row (P := P) w t tx ty e i z 1 bytes hu .string htx (.inr rfl) hi hz' h1' h2' hzs v n xs (H.get hk) (.string str) str.size (bys str.data.toList) (by rw [bys_length, Nat.mul_one]; rfl) (fun w' => rfl) hcells (bys_one _) hbytes hmax hb1
  refine opw_val (v := v') (w' := w') (by simp only [BigFrame.execOp_builtin, BigFrame.builtin_append, List.map_toArray, List.map_cons, List.map_nil, hs, hx, Sem.run_bind, hr, Result.andThen_ok, Sem.run_pure]) ?_
  refine h _ _ (H.change hk hg hrow ?_)
  intro b hb
  simp only [Res.at] at hb ⊢
  rcases hat with e | e
  · exact .inl (e ▸ hb)
  · rw [hb] at e; simp only [Option.some.injEq] at e; exact .inr (by omega)

theorem run_sliceBound_nat {P : Program} {w : World} {k : IntKind} {i y : Nat} {code : BoundsCode} (h : i ≤ y) : (Instr.sliceBound (.int k (i : Int)) y code).run P w = .ok i w := by
  have h1 : (0 : Int) ≤ (i : Int) ∧ (i : Int) ≤ (y : Int) := by omega
  simp [Instr.sliceBound, asIntOf, h]

/-- a part of a slice, to be read: where it lies nobody asks -/
theorem opw_slice {K : Act → World → Prop} {t e : TypeId} {x : Operand} {lo hi : Option Operand} {size n c : Nat} {A : Option Addr} (l h : Nat) (vs : List Value) (hu : P.underlying t = some (.slice e)) (hi' : (P.info? e).map (·.size) = some size)
    (hx : a.eval x = .slice A n c) (hlo : (lo = none ∧ l = 0) ∨ ∃ k y, lo = some y ∧ a.eval y = .int k (l : Int)) (hhi : (hi = none ∧ h = n) ∨ ∃ k y, hi = some y ∧ a.eval y = .int k (h : Int)) (hlh : l ≤ h) (hhc : h ≤ c) (hvs : vs.length ≤ c * size)
    (hk : ∀ B, (∀ w', SlAt w' A vs → SlAt w' B ((vs.drop (l * size)).take ((h - l) * size))) → K (a.put dst (.slice B (h - l) (c - l))) w) :
    Oper.wp P { dst, op := .slice t x lo hi none, type := ty, pos, after := af, guard := g } a w K Q := by
  cases hq : P.info? e with
  | none => simp [hq] at hi'
  | some i =>
    have hs : i.size = size := by simpa [hq] using hi'
    refine opw_val (v := .slice (if c = l then A else A.map (·.add (l * size))) (h - l) (c - l)) (w' := w) ?_ (hk _ (fun w' hA => (hA.dropIf (m := l * size) (fun e => by rw [e] at hvs; exact hvs)).take _))
    have hl1 : ∀ y k, a.eval y = .int k (l : Int) → ∀ code, (Instr.sliceBound (a.eval y) h code).run P w = .ok l w := fun y k hy code => by rw [hy]; exact run_sliceBound_nat hlh
    have hh1 : ∀ y k, a.eval y = .int k (h : Int) → ∀ code, (Instr.sliceBound (a.eval y) c code).run P w = .ok h w := fun y k hy code => by rw [hy]; exact run_sliceBound_nat hhc
    rcases hlo with ⟨rfl, rfl⟩ | ⟨k, y, rfl, hy⟩ <;> rcases hhi with ⟨rfl, rfl⟩ | ⟨k', y', rfl, hy'⟩
    · simp [execOp, Instr.sliceAt, Instr.slice, Instr.sliceBounds, run_underlying hu, hx, sizeOf, typeInfo, hq, hs]
    · simp [execOp, Instr.sliceAt, Instr.slice, Instr.sliceBounds, run_underlying hu, hx, sizeOf, typeInfo, hq, hs, hh1 y' k' hy']
    · simp [execOp, Instr.sliceAt, Instr.slice, Instr.sliceBounds, run_underlying hu, hx, sizeOf, typeInfo, hq, hs, hl1 y k hy]
    · simp [execOp, Instr.sliceAt, Instr.slice, Instr.sliceBounds, run_underlying hu, hx, sizeOf, typeInfo, hq, hs, hl1 y k hy, hh1 y' k' hy']

/-- a part of bytes -/
theorem opw_sliceB {K : Act → World → Prop} {t e : TypeId} {x : Operand} {lo hi : Option Operand} {n c : Nat} {A : Option Addr} (l h : Nat) (bs : List UInt8) (hu : P.underlying t = some (.slice e)) (hi' : (P.info? e).map (·.size) = some 1)
    (hx : a.eval x = .slice A n c) (hlo : (lo = none ∧ l = 0) ∨ ∃ k y, lo = some y ∧ a.eval y = .int k (l : Int)) (hhi : (hi = none ∧ h = n) ∨ ∃ k y, hi = some y ∧ a.eval y = .int k (h : Int)) (hlh : l ≤ h) (hhc : h ≤ c) (hvs : bs.length ≤ c)
    (hk : ∀ B, (∀ w', SlAt w' A (bys bs) → SlAt w' B (bys ((bs.take h).drop l))) → K (a.put dst (.slice B (h - l) (c - l))) w) :
    Oper.wp P { dst, op := .slice t x lo hi none, type := ty, pos, after := af, guard := g } a w K Q := by
  refine opw_slice l h (bys bs) hu hi' hx hlo hhi hlh hhc (by rw [bys_length]; omega) (fun B hB => hk B (fun w' hA => ?_))
  have := hB w' hA
  rw [Nat.mul_one, Nat.mul_one, bys_drop, bys_take] at this
  rwa [List.drop_take]

/-- bytes become a string -/
theorem opw_str {K : Act → World → Prop} {src d e : TypeId} {x : Operand} {A : Option Addr} {n c : Nat} {l : List UInt8} (hs : P.underlying src = some (.slice e)) (he : P.underlying e = some (.int .u8)) (hd : P.underlying d = some .string)
    (hx : a.eval x = .slice A n c) (hA : SlAt w A (bys l)) (hn : n = l.length) (h : K (a.put dst (.string ⟨l.toArray⟩)) w) : Oper.wp P { dst, op := .convert src d x, type := ty, pos, after := af, guard := g } a w K Q := by
  subst hn
  refine opw_val (v := .string ⟨l.toArray⟩) (w' := w) ?_ h
  have hb : (Conv.bytesToString (.slice A l.length c)).run P w = .ok (.string ⟨l.toArray⟩) w := by
    cases A with
    | none =>
      have : l = [] := by
        cases l with
        | nil => rfl
        | cons u r => obtain ⟨a', e, _⟩ := hA 0 _ rfl; simp at e
      subst this
      rfl
    | some ad =>
      have hl := run_loadCells_list (P := P) w ad (bys l) (fun i u hu => hA.get hu)
      rw [bys_length] at hl
      have hr := run_bytesToString (P := P) w ad l.length c (l.map fun x => (x.toNat : Int)) (by rw [hl]; simp [bys])
      rw [hr, foldl_push_bytes]
      simp [ByteArray.empty, ByteArray.emptyWithCapacity, Function.comp_def]
      rfl
  simp [execOp, hx, run_convert_bytes_string (P := P) w src d e A l.length c hs he hd, hb]

end

/-! ### where the walk stops, to be led on by hand -/
/-- a goal at which the walk stops -/
def Stop (p : Prop) : Prop := p
section
variable {P : Program} {ops : Array Oper} {rest : List Oper} {a : Act} {w : World} {Q : Exit → Act → World → Prop}
variable {dst : Option Tmp} {ty : TypeId} {pos : String} {af : Array Edge} {g : Option (Nat × Bool)}
theorem stop_box {e : TypeId} {x : Operand} (h : Stop (wpList P ops Q ({ dst, op := .box e x, type := ty, pos, after := af, guard := none } :: rest) a w)) : wpList P ops Q ({ dst, op := .box e x, type := ty, pos, after := af, guard := none } :: rest) a w := h
theorem stop_alloc {e : TypeId} (h : Stop (wpList P ops Q ({ dst, op := .alloc e, type := ty, pos, after := af, guard := none } :: rest) a w)) : wpList P ops Q ({ dst, op := .alloc e, type := ty, pos, after := af, guard := none } :: rest) a w := h
theorem stop_load {e : TypeId} {x : Operand} (h : Stop (wpList P ops Q ({ dst, op := .load e x, type := ty, pos, after := af, guard := none } :: rest) a w)) : wpList P ops Q ({ dst, op := .load e x, type := ty, pos, after := af, guard := none } :: rest) a w := h
theorem stop_store {e : TypeId} {x y : Operand} (h : Stop (wpList P ops Q ({ dst, op := .store e x y, type := ty, pos, after := af, guard := none } :: rest) a w)) : wpList P ops Q ({ dst, op := .store e x y, type := ty, pos, after := af, guard := none } :: rest) a w := h
theorem stop_make {e : TypeId} {x y : Operand} (h : Stop (wpList P ops Q ({ dst, op := .makeSlice e x y, type := ty, pos, after := af, guard := none } :: rest) a w)) : wpList P ops Q ({ dst, op := .makeSlice e x y, type := ty, pos, after := af, guard := none } :: rest) a w := h
theorem stop_lit {e : TypeId} {n : Nat} {pr : Array (Nat × Operand)} (h : Stop (wpList P ops Q ({ dst, op := .buildSlice e n pr, type := ty, pos, after := af, guard := none } :: rest) a w)) : wpList P ops Q ({ dst, op := .buildSlice e n pr, type := ty, pos, after := af, guard := none } :: rest) a w := h
theorem stop_build {e : TypeId} {pr : Array (Nat × Operand)} (h : Stop (wpList P ops Q ({ dst, op := .build e pr, type := ty, pos, after := af, guard := none } :: rest) a w)) : wpList P ops Q ({ dst, op := .build e pr, type := ty, pos, after := af, guard := none } :: rest) a w := h
theorem stop_append {xs : Array Operand} {ts : Array TypeId} (h : Stop (wpList P ops Q ({ dst, op := .call { callee := .builtin .append, args := xs, argTypes := ts }, type := ty, pos, after := af, guard := none } :: rest) a w)) : wpList P ops Q ({ dst, op := .call { callee := .builtin .append, args := xs, argTypes := ts }, type := ty, pos, after := af, guard := none } :: rest) a w := h
theorem stop_copy {xs : Array Operand} {ts : Array TypeId} (h : Stop (wpList P ops Q ({ dst, op := .call { callee := .builtin .copy, args := xs, argTypes := ts }, type := ty, pos, after := af, guard := none } :: rest) a w)) : wpList P ops Q ({ dst, op := .call { callee := .builtin .copy, args := xs, argTypes := ts }, type := ty, pos, after := af, guard := none } :: rest) a w := h
theorem stop_map {e : TypeId} {r : Option Operand} (h : Stop (wpList P ops Q ({ dst, op := .makeMap e r, type := ty, pos, after := af, guard := none } :: rest) a w)) : wpList P ops Q ({ dst, op := .makeMap e r, type := ty, pos, after := af, guard := none } :: rest) a w := h
theorem stop_lookup {e : TypeId} {x y : Operand} {b : Bool} (h : Stop (wpList P ops Q ({ dst, op := .lookup e x y b, type := ty, pos, after := af, guard := none } :: rest) a w)) : wpList P ops Q ({ dst, op := .lookup e x y b, type := ty, pos, after := af, guard := none } :: rest) a w := h
theorem stop_update {e : TypeId} {x y z : Operand} (h : Stop (wpList P ops Q ({ dst, op := .mapUpdate e x y z, type := ty, pos, after := af, guard := none } :: rest) a w)) : wpList P ops Q ({ dst, op := .mapUpdate e x y z, type := ty, pos, after := af, guard := none } :: rest) a w := h
theorem stop_delete {xs : Array Operand} {ts : Array TypeId} (h : Stop (wpList P ops Q ({ dst, op := .call { callee := .builtin .delete, args := xs, argTypes := ts }, type := ty, pos, after := af, guard := none } :: rest) a w)) : wpList P ops Q ({ dst, op := .call { callee := .builtin .delete, args := xs, argTypes := ts }, type := ty, pos, after := af, guard := none } :: rest) a w := h
theorem stop_clear {xs : Array Operand} {ts : Array TypeId} (h : Stop (wpList P ops Q ({ dst, op := .call { callee := .builtin .clear, args := xs, argTypes := ts }, type := ty, pos, after := af, guard := none } :: rest) a w)) : wpList P ops Q ({ dst, op := .call { callee := .builtin .clear, args := xs, argTypes := ts }, type := ty, pos, after := af, guard := none } :: rest) a w := h
theorem stop_arr {e : TypeId} {x : Operand} (h : Stop (wpList P ops Q ({ dst, op := .sliceToArrayPointer e x, type := ty, pos, after := af, guard := none } :: rest) a w)) : wpList P ops Q ({ dst, op := .sliceToArrayPointer e x, type := ty, pos, after := af, guard := none } :: rest) a w := h
theorem stop_slice {e : TypeId} {x : Operand} {lo hi mx : Option Operand} (h : Stop (wpList P ops Q ({ dst, op := .slice e x lo hi mx, type := ty, pos, after := af, guard := none } :: rest) a w)) : wpList P ops Q ({ dst, op := .slice e x lo hi mx, type := ty, pos, after := af, guard := none } :: rest) a w := h
theorem stop_conv {e f : TypeId} {x : Operand} (h : Stop (wpList P ops Q ({ dst, op := .convert e f x, type := ty, pos, after := af, guard := none } :: rest) a w)) : wpList P ops Q ({ dst, op := .convert e f x, type := ty, pos, after := af, guard := none } :: rest) a w := h
theorem stop_idx {e : TypeId} {x y : Operand} (h : Stop (wpList P ops Q ({ dst, op := .index e x y, type := ty, pos, after := af, guard := none } :: rest) a w)) : wpList P ops Q ({ dst, op := .index e x y, type := ty, pos, after := af, guard := none } :: rest) a w := h
theorem stopg_box {e : TypeId} {x : Operand} {gd : Nat × Bool} (hw : Region.wanted { dst, op := .box e x, type := ty, pos, after := af, guard := some gd } (yielded ops a.tmps) = true) (h : Stop (wpList P ops Q ({ dst, op := .box e x, type := ty, pos, after := af, guard := some gd } :: rest) a w)) : wpList P ops Q ({ dst, op := .box e x, type := ty, pos, after := af, guard := some gd } :: rest) a w := h
theorem stopg_alloc {e : TypeId} {gd : Nat × Bool} (hw : Region.wanted { dst, op := .alloc e, type := ty, pos, after := af, guard := some gd } (yielded ops a.tmps) = true) (h : Stop (wpList P ops Q ({ dst, op := .alloc e, type := ty, pos, after := af, guard := some gd } :: rest) a w)) : wpList P ops Q ({ dst, op := .alloc e, type := ty, pos, after := af, guard := some gd } :: rest) a w := h
theorem stopg_load {e : TypeId} {x : Operand} {gd : Nat × Bool} (hw : Region.wanted { dst, op := .load e x, type := ty, pos, after := af, guard := some gd } (yielded ops a.tmps) = true) (h : Stop (wpList P ops Q ({ dst, op := .load e x, type := ty, pos, after := af, guard := some gd } :: rest) a w)) : wpList P ops Q ({ dst, op := .load e x, type := ty, pos, after := af, guard := some gd } :: rest) a w := h
theorem stopg_store {e : TypeId} {x y : Operand} {gd : Nat × Bool} (hw : Region.wanted { dst, op := .store e x y, type := ty, pos, after := af, guard := some gd } (yielded ops a.tmps) = true) (h : Stop (wpList P ops Q ({ dst, op := .store e x y, type := ty, pos, after := af, guard := some gd } :: rest) a w)) : wpList P ops Q ({ dst, op := .store e x y, type := ty, pos, after := af, guard := some gd } :: rest) a w := h
theorem stopg_make {e : TypeId} {x y : Operand} {gd : Nat × Bool} (hw : Region.wanted { dst, op := .makeSlice e x y, type := ty, pos, after := af, guard := some gd } (yielded ops a.tmps) = true) (h : Stop (wpList P ops Q ({ dst, op := .makeSlice e x y, type := ty, pos, after := af, guard := some gd } :: rest) a w)) : wpList P ops Q ({ dst, op := .makeSlice e x y, type := ty, pos, after := af, guard := some gd } :: rest) a w := h
theorem stopg_lit {e : TypeId} {n : Nat} {pr : Array (Nat × Operand)} {gd : Nat × Bool} (hw : Region.wanted { dst, op := .buildSlice e n pr, type := ty, pos, after := af, guard := some gd } (yielded ops a.tmps) = true) (h : Stop (wpList P ops Q ({ dst, op := .buildSlice e n pr, type := ty, pos, after := af, guard := some gd } :: rest) a w)) : wpList P ops Q ({ dst, op := .buildSlice e n pr, type := ty, pos, after := af, guard := some gd } :: rest) a w := h
theorem stopg_build {e : TypeId} {pr : Array (Nat × Operand)} {gd : Nat × Bool} (hw : Region.wanted { dst, op := .build e pr, type := ty, pos, after := af, guard := some gd } (yielded ops a.tmps) = true) (h : Stop (wpList P ops Q ({ dst, op := .build e pr, type := ty, pos, after := af, guard := some gd } :: rest) a w)) : wpList P ops Q ({ dst, op := .build e pr, type := ty, pos, after := af, guard := some gd } :: rest) a w := h
theorem stopg_append {xs : Array Operand} {ts : Array TypeId} {gd : Nat × Bool} (hw : Region.wanted { dst, op := .call { callee := .builtin .append, args := xs, argTypes := ts }, type := ty, pos, after := af, guard := some gd } (yielded ops a.tmps) = true) (h : Stop (wpList P ops Q ({ dst, op := .call { callee := .builtin .append, args := xs, argTypes := ts }, type := ty, pos, after := af, guard := some gd } :: rest) a w)) : wpList P ops Q ({ dst, op := .call { callee := .builtin .append, args := xs, argTypes := ts }, type := ty, pos, after := af, guard := some gd } :: rest) a w := h
theorem stopg_copy {xs : Array Operand} {ts : Array TypeId} {gd : Nat × Bool} (hw : Region.wanted { dst, op := .call { callee := .builtin .copy, args := xs, argTypes := ts }, type := ty, pos, after := af, guard := some gd } (yielded ops a.tmps) = true) (h : Stop (wpList P ops Q ({ dst, op := .call { callee := .builtin .copy, args := xs, argTypes := ts }, type := ty, pos, after := af, guard := some gd } :: rest) a w)) : wpList P ops Q ({ dst, op := .call { callee := .builtin .copy, args := xs, argTypes := ts }, type := ty, pos, after := af, guard := some gd } :: rest) a w := h
theorem stopg_map {e : TypeId} {r : Option Operand} {gd : Nat × Bool} (hw : Region.wanted { dst, op := .makeMap e r, type := ty, pos, after := af, guard := some gd } (yielded ops a.tmps) = true) (h : Stop (wpList P ops Q ({ dst, op := .makeMap e r, type := ty, pos, after := af, guard := some gd } :: rest) a w)) : wpList P ops Q ({ dst, op := .makeMap e r, type := ty, pos, after := af, guard := some gd } :: rest) a w := h
theorem stopg_lookup {e : TypeId} {x y : Operand} {b : Bool} {gd : Nat × Bool} (hw : Region.wanted { dst, op := .lookup e x y b, type := ty, pos, after := af, guard := some gd } (yielded ops a.tmps) = true) (h : Stop (wpList P ops Q ({ dst, op := .lookup e x y b, type := ty, pos, after := af, guard := some gd } :: rest) a w)) : wpList P ops Q ({ dst, op := .lookup e x y b, type := ty, pos, after := af, guard := some gd } :: rest) a w := h
theorem stopg_update {e : TypeId} {x y z : Operand} {gd : Nat × Bool} (hw : Region.wanted { dst, op := .mapUpdate e x y z, type := ty, pos, after := af, guard := some gd } (yielded ops a.tmps) = true) (h : Stop (wpList P ops Q ({ dst, op := .mapUpdate e x y z, type := ty, pos, after := af, guard := some gd } :: rest) a w)) : wpList P ops Q ({ dst, op := .mapUpdate e x y z, type := ty, pos, after := af, guard := some gd } :: rest) a w := h
theorem stopg_delete {xs : Array Operand} {ts : Array TypeId} {gd : Nat × Bool} (hw : Region.wanted { dst, op := .call { callee := .builtin .delete, args := xs, argTypes := ts }, type := ty, pos, after := af, guard := some gd } (yielded ops a.tmps) = true) (h : Stop (wpList P ops Q ({ dst, op := .call { callee := .builtin .delete, args := xs, argTypes := ts }, type := ty, pos, after := af, guard := some gd } :: rest) a w)) : wpList P ops Q ({ dst, op := .call { callee := .builtin .delete, args := xs, argTypes := ts }, type := ty, pos, after := af, guard := some gd } :: rest) a w := h
theorem stopg_clear {xs : Array Operand} {ts : Array TypeId} {gd : Nat × Bool} (hw : Region.wanted { dst, op := .call { callee := .builtin .clear, args := xs, argTypes := ts }, type := ty, pos, after := af, guard := some gd } (yielded ops a.tmps) = true) (h : Stop (wpList P ops Q ({ dst, op := .call { callee := .builtin .clear, args := xs, argTypes := ts }, type := ty, pos, after := af, guard := some gd } :: rest) a w)) : wpList P ops Q ({ dst, op := .call { callee := .builtin .clear, args := xs, argTypes := ts }, type := ty, pos, after := af, guard := some gd } :: rest) a w := h
theorem stopg_arr {e : TypeId} {x : Operand} {gd : Nat × Bool} (hw : Region.wanted { dst, op := .sliceToArrayPointer e x, type := ty, pos, after := af, guard := some gd } (yielded ops a.tmps) = true) (h : Stop (wpList P ops Q ({ dst, op := .sliceToArrayPointer e x, type := ty, pos, after := af, guard := some gd } :: rest) a w)) : wpList P ops Q ({ dst, op := .sliceToArrayPointer e x, type := ty, pos, after := af, guard := some gd } :: rest) a w := h
theorem stopg_slice {e : TypeId} {x : Operand} {lo hi mx : Option Operand} {gd : Nat × Bool} (hw : Region.wanted { dst, op := .slice e x lo hi mx, type := ty, pos, after := af, guard := some gd } (yielded ops a.tmps) = true) (h : Stop (wpList P ops Q ({ dst, op := .slice e x lo hi mx, type := ty, pos, after := af, guard := some gd } :: rest) a w)) : wpList P ops Q ({ dst, op := .slice e x lo hi mx, type := ty, pos, after := af, guard := some gd } :: rest) a w := h
theorem stopg_conv {e f : TypeId} {x : Operand} {gd : Nat × Bool} (hw : Region.wanted { dst, op := .convert e f x, type := ty, pos, after := af, guard := some gd } (yielded ops a.tmps) = true) (h : Stop (wpList P ops Q ({ dst, op := .convert e f x, type := ty, pos, after := af, guard := some gd } :: rest) a w)) : wpList P ops Q ({ dst, op := .convert e f x, type := ty, pos, after := af, guard := some gd } :: rest) a w := h
theorem stopg_idx {e : TypeId} {x y : Operand} {gd : Nat × Bool} (hw : Region.wanted { dst, op := .index e x y, type := ty, pos, after := af, guard := some gd } (yielded ops a.tmps) = true) (h : Stop (wpList P ops Q ({ dst, op := .index e x y, type := ty, pos, after := af, guard := some gd } :: rest) a w)) : wpList P ops Q ({ dst, op := .index e x y, type := ty, pos, after := af, guard := some gd } :: rest) a w := h
end
end Go.PBYtngdppffcdhhlaa
