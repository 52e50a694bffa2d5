/- Maps that the seat's code owns: made, asked, written, and let go. No condition. -/
import Derived.Test.YtngdppffcdhhlaaPK
import Derived.ChangeMaps4
import Derived.WideKeyElems
namespace Go.PBYtngdppffcdhhlaa
open Go Go.RowKit Go.ChangeMaps
set_option linter.unusedSimpArgs false
set_option linter.unusedVariables false

/-- what a map's block holds: its keys and what they lead to, in the order in which they came -/
def MapOf (o : Obj) (E : List (Value × Value)) : Prop := ∃ es clock, o = .map es clock ∧ es.toList.map (fun e => (e.key, e.val)) = E

theorem MapOf.get {es : Array MapEntry} {E : List (Value × Value)} (h : es.toList.map (fun e => (e.key, e.val)) = E) {j : Nat} {e : MapEntry} (hj : es.toList[j]? = some e) : E[j]? = some (e.key, e.val) := by
  rw [← h, List.getElem?_map, hj]; rfl
theorem MapOf.no {es : Array MapEntry} {E : List (Value × Value)} (h : es.toList.map (fun e => (e.key, e.val)) = E) {kv : Value} (hn : ∀ e ∈ es.toList, e.key ≠ kv) : ∀ p ∈ E, p.1 ≠ kv := by
  intro p hp
  rw [← h] at hp
  obtain ⟨e, he, rfl⟩ := List.mem_map.1 hp
  exact hn e he
theorem MapOf.keys {P : Program} {kt : TypeId} {es : Array MapEntry} {E : List (Value × Value)} (h : es.toList.map (fun e => (e.key, e.val)) = E) (hall : ∀ p ∈ E, ∃ l, keyOf P kt p.1 = some l) : ∀ e ∈ es.toList, ∃ l, keyOf P kt e.key = some l := by
  intro e he
  exact hall (e.key, e.val) (by rw [← h]; exact List.mem_map.2 ⟨e, he, rfl⟩)

theorem grownBy_setBlock (w : World) (b : Nat) (o : Obj) : w.grownBy (setBlock w b o) (some b) :=
  ⟨rfl, rfl, rfl, by simp [setBlock], fun k hk hn => by
    simp only [setBlock]
    rw [Array.getElem?_setIfInBounds_ne (by intro e; subst e; exact hn rfl)]⟩
theorem setBlock_at {w : World} {b : Nat} {o : Obj} (h : b < w.heap.size) : (setBlock w b o).heap[b]? = some o := by
  simp [setBlock, Array.getElem?_setIfInBounds, h]

section
variable {P : Program} {S : List Nat} {w0 w : World} {L : List Res} {Q : Exit → Act → World → Prop} {a : Act} {dst : Option Tmp} {ty : TypeId} {pos : String} {af : Array Edge} {g : Option (Nat × Bool)}

theorem opw_makeMap {K : Act → World → Prop} {t : TypeId} (H : St S w0 L w)
    (h : ∀ w' b o, MapOf o [] → St S w0 (L ++ [.obj b o]) w' → K (a.put dst (.map (some b))) w') : Oper.wp P { dst, op := .makeMap t none, type := ty, pos, after := af, guard := g } a w K Q := by
  refine opw_val (v := .map (some w.heap.size)) (w' := w.alloc (.map #[] 0)) (by simp [execOp, Instr.makeMap]) ?_
  refine h _ _ (.map #[] 0) ⟨#[], 0, rfl, rfl⟩ (H.add (World.grownBy_alloc w _ none) (heap_alloc_new w (.map #[] 0)) (by simp [Res.at]))

theorem opw_lookup2 {K : Act → World → Prop} {t kt et : TypeId} {x y : Operand} {b : Nat} {o : Obj} {E : List (Value × Value)} {kv z : Value} {l : Lit} {i : TypeInfo} (F : WideMaps.KeyLaw P kt) (hu : P.underlying t = some (.map kt et)) (hi : P.info? et = some i) (hz : i.zero = some z)
    (ho : w.heap[b]? = some o) (hE : MapOf o E) (hx : a.eval x = .map (some b)) (hy : a.eval y = kv) (hkey : keyOf P kt kv = some l) (hall : ∀ p ∈ E, ∃ l, keyOf P kt p.1 = some l)
    (hno : (∀ p ∈ E, p.1 ≠ kv) → K (a.put dst (.tuple #[z, .bool false])) w) (hyes : ∀ (j : Nat) v, E[j]? = some (kv, v) → K (a.put dst (.tuple #[v, .bool true])) w) :
    Oper.wp P { dst, op := .lookup t x y true, type := ty, pos, after := af, guard := g } a w K Q := by
  obtain ⟨es, clock, rfl, hE⟩ := hE
  have hzw : (zeroValue et).run P w = .ok z w := by simp [zeroValue, typeInfo, hi, hz]
  rcases F.find w hkey es.toList (MapOf.keys hE hall) with ⟨h1, h2⟩ | ⟨j, e0, h1, h2, h3⟩
  · exact opw_val (v := .tuple #[z, .bool false]) (w' := w) (by simp [execOp, hx, hy, Instr.lookup, run_underlying hu, MapKept.run_getObj_map ho, F.check w _ hkey, h1, hzw, Result.andThen]) (hno (MapOf.no hE h2))
  · refine opw_val (v := .tuple #[e0.val, .bool true]) (w' := w) (by simp [execOp, hx, hy, Instr.lookup, run_underlying hu, MapKept.run_getObj_map ho, F.check w _ hkey, h1, hzw, Result.andThen]) (hyes j e0.val ?_)
    rw [MapOf.get hE h2, h3]

theorem opw_update {K : Act → World → Prop} {t kt et : TypeId} {x y u : Operand} {b k : Nat} {o : Obj} {E : List (Value × Value)} {kv v : Value} {l : Lit} (F : WideMaps.KeyLaw P kt) (hu : P.underlying t = some (.map kt et))
    (H : St S w0 L w) (hk : L[k]? = some (.obj b o)) (hE : MapOf o E) (hx : a.eval x = .map (some b)) (hy : a.eval y = kv) (hv : a.eval u = v) (hkey : keyOf P kt kv = some l) (hall : ∀ p ∈ E, ∃ l, keyOf P kt p.1 = some l)
    (hno : ∀ p ∈ E, p.1 ≠ kv) (h : ∀ w' o', MapOf o' (E ++ [(kv, v)]) → St S w0 (L.set k (.obj b o')) w' → K (a.put dst undef) w') :
    Oper.wp P { dst, op := .mapUpdate t x y u, type := ty, pos, after := af, guard := g } a w K Q := by
  obtain ⟨es, clock, rfl, hE⟩ := hE
  have ho : w.heap[b]? = some (.map es clock) := H.ok _ (List.mem_of_getElem? hk)
  have hlt : b < w.heap.size := (Array.getElem?_eq_some_iff.1 ho).1
  rcases F.find w hkey es.toList (MapOf.keys hE hall) with ⟨h1, h2⟩ | ⟨j, e0, h1, h2, h3⟩
  · refine opw_skip (w' := setBlock w b (.map (es.push ⟨kv, v, clock⟩) (clock + 1))) (by simp [execOp, hx, hy, hv, Instr.mapUpdate, run_underlying hu, MapKept.run_getObj_map ho, F.check w false hkey, h1, MapKept.run_setObj_map _ ho, Result.andThen, setBlock]) ?_
    refine h _ (.map (es.push ⟨kv, v, clock⟩) (clock + 1)) ⟨_, _, rfl, by simp [hE]⟩ (H.change hk (grownBy_setBlock w b _) (setBlock_at hlt) (fun b' hb' => .inl hb'))
  · exact absurd h3 (by
      have := hno (e0.key, e0.val) (List.mem_of_getElem? (MapOf.get hE h2))
      exact this)

theorem opw_delete {K : Act → World → Prop} {t kt et : TypeId} {x y : Operand} {b k : Nat} {o : Obj} {E : List (Value × Value)} {kv : Value} {l : Lit} (F : WideMaps.KeyLaw P kt) (hu : P.underlying t = some (.map kt et))
    (H : St S w0 L w) (hk : L[k]? = some (.obj b o)) (hE : MapOf o E) (hx : a.eval x = .map (some b)) (hy : a.eval y = kv) (hkey : keyOf P kt kv = some l) (hall : ∀ p ∈ E, ∃ l, keyOf P kt p.1 = some l)
    (hno : (∀ p ∈ E, p.1 ≠ kv) → ∀ w', St S w0 L w' → K (a.put dst (.tuple #[])) w')
    (hyes : ∀ (j : Nat) v w' o', E[j]? = some (kv, v) → MapOf o' (E.eraseIdx j) → St S w0 (L.set k (.obj b o')) w' → K (a.put dst (.tuple #[])) w') :
    Oper.wp P { dst, op := .call { callee := .builtin .delete, args := #[x, y], argTypes := #[t, kt] }, type := ty, pos, after := af, guard := g } a w K Q := by
  obtain ⟨es, clock, rfl, hE⟩ := hE
  have ho : w.heap[b]? = some (.map es clock) := H.ok _ (List.mem_of_getElem? hk)
  have hlt : b < w.heap.size := (Array.getElem?_eq_some_iff.1 ho).1
  rcases F.find w hkey es.toList (MapOf.keys hE hall) with ⟨h1, h2⟩ | ⟨j, e0, h1, h2, h3⟩
  · have e : setBlock w b (.map es clock) = w := by
      unfold setBlock
      obtain ⟨h5, h6⟩ := Array.getElem?_eq_some_iff.1 ho
      have : w.heap.setIfInBounds b (.map es clock) = w.heap := by
        apply Array.ext_getElem?
        intro i
        rw [Array.getElem?_setIfInBounds]
        split
        · rename_i hi; subst hi; exact ho.symm
        · rfl
      rw [this]
    have hr : (Builtin.delete_ #[t, kt] ty #[.map (some b), kv]).run P w = .ok (.tuple #[]) (setBlock w b (.map es clock)) := by
      simp [Builtin.delete_, run_underlying hu, MapKept.run_getObj_map ho, F.check w _ hkey, h1, MapKept.run_setObj_map _ ho, Result.andThen, setBlock]
    refine opw_val (v := .tuple #[]) (w' := setBlock w b (.map es clock)) (by simp only [BigFrame.execOp_builtin, BigFrame.builtin_delete, List.map_toArray, List.map_cons, List.map_nil, hx, hy, Sem.run_bind, hr, Result.andThen_ok, Sem.run_pure]) ?_
    rw [e]
    exact hno (MapOf.no hE h2) w H
  · have hjs : j < es.size := by simpa using (List.getElem?_eq_some_iff.1 h2).1
    have hsub : (es.eraseIdxIfInBounds j).toList = es.toList.eraseIdx j := by
      unfold Array.eraseIdxIfInBounds
      rw [dif_pos hjs]
      simp
    have hr : (Builtin.delete_ #[t, kt] ty #[.map (some b), kv]).run P w = .ok (.tuple #[]) (setBlock w b (.map (es.eraseIdxIfInBounds j) clock)) := by
      simp [Builtin.delete_, run_underlying hu, MapKept.run_getObj_map ho, F.check w _ hkey, h1, MapKept.run_setObj_map _ ho, Result.andThen, setBlock]
    refine opw_val (v := .tuple #[]) (w' := setBlock w b (.map (es.eraseIdxIfInBounds j) clock)) (by simp only [BigFrame.execOp_builtin, BigFrame.builtin_delete, List.map_toArray, List.map_cons, List.map_nil, hx, hy, Sem.run_bind, hr, Result.andThen_ok, Sem.run_pure]) ?_
    refine hyes j e0.val _ (.map (es.eraseIdxIfInBounds j) clock) (by rw [MapOf.get hE h2, h3]) ⟨_, _, rfl, by rw [hsub, map_eraseIdx, hE]⟩ (H.change hk (grownBy_setBlock w b _) (setBlock_at hlt) (fun b' hb' => .inl hb'))
end
end Go.PBYtngdppffcdhhlaa
