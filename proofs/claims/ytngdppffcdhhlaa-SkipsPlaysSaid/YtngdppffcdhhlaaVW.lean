/- Structs that are built out of parts of several cells. No condition. -/
import Derived.Test.YtngdppffcdhhlaaVX
namespace Go.PBYtngdppffcdhhlaa
open Go Go.RowKit
set_option linter.unusedSimpArgs false
set_option linter.unusedVariables false

def cellsL (v : Value) : List Value := v.cells.toList
def flatV (vs : List Value) : List Value := (vs.map cellsL).flatten
theorem cellsL_size (v : Value) : v.cells.size = (cellsL v).length := by simp [cellsL]
def plOk (pl : Nat → Option (Nat × Nat)) : Nat → Nat → List Value → Prop
  | _, _, [] => True
  | k, o, v :: r => pl k = some (o, (cellsL v).length) ∧ plOk pl (k + 1) (o + (cellsL v).length) r
theorem fillSeq (pl : Nat → Option (Nat × Nat)) : ∀ (vs : List Value) (k o : Nat) (c : List Value), plOk pl k o vs → o + (flatV vs).length ≤ c.length →
    Instr.fill pl c.toArray ((List.range' k vs.length).zip vs) = some (c.take o ++ flatV vs ++ c.drop (o + (flatV vs).length)).toArray
  | [], k, o, c, _, _ => by simp [Instr.fill, flatV]
  | v :: r, k, o, c, hp, h => by
    obtain ⟨hp1, hp2⟩ := hp
    have hfl : flatV (v :: r) = cellsL v ++ flatV r := rfl
    rw [hfl, List.length_append] at h
    rw [List.length_cons, List.range'_succ, List.zip_cons_cons]
    simp only [Instr.fill, hp1]
    rw [if_neg (by simp [cellsL_size]; omega)]
    have hf := foldSet (cellsL v) 0 o c (by omega)
    have e0 : (v.cells.zipIdx.foldl (fun (cs : Array Value) (x : Value × Nat) => match x with | (c, j) => cs.setIfInBounds (o + j) c) c.toArray) = (c.take o ++ cellsL v ++ c.drop (o + (cellsL v).length)).toArray := by
      rw [← Array.foldl_toList, Array.toList_zipIdx]
      rw [Nat.add_zero] at hf
      exact hf
    rw [e0]
    have hcl : (c.take o ++ cellsL v ++ c.drop (o + (cellsL v).length)).length = c.length := by simp; omega
    rw [fillSeq pl r (k + 1) (o + (cellsL v).length) _ hp2 (by rw [hcl]; omega)]
    have hlt : (c.take o).length = o := by simp; omega
    have e1 : (c.take o ++ cellsL v ++ c.drop (o + (cellsL v).length)).take (o + (cellsL v).length) = c.take o ++ cellsL v := by
      rw [List.take_append_of_le_length (by simp; omega), List.take_of_length_le (by simp; omega)]
    have e2 : (c.take o ++ cellsL v ++ c.drop (o + (cellsL v).length)).drop (o + (cellsL v).length + (flatV r).length) = c.drop (o + (flatV (v :: r)).length) := by
      rw [hfl, List.length_append, List.drop_append, List.drop_eq_nil_of_le (by simp; omega), List.nil_append, List.drop_drop]
      congr 1
      simp
      omega
    rw [e1, e2, hfl]
    simp
def placesS (P : Program) (t : TypeId) : Option (Nat × List (Nat × Nat)) :=
  match P.info? t, P.underlying t with
  | some it, some (.struct fields) =>
    match it.zero, fields.toList.mapM (fun f => (P.info? f.type).map fun i => (f.offset, i.size)) with
    | some z, some places => some ((cellsL z).length, places)
    | _, _ => none
  | _, _ => none
def seqs : Nat → List Nat → List (Nat × Nat)
  | _, [] => []
  | o, s :: r => (o, s) :: seqs (o + s) r
theorem plOk_seq : ∀ (vs : List Value) (k o : Nat) (pre places : List (Nat × Nat)), pre.length = k → places = pre ++ seqs o (vs.map fun v => (cellsL v).length) → plOk (fun i => places.toArray[i]?) k o vs
  | [], k, o, pre, places, _, _ => trivial
  | v :: r, k, o, pre, places, hk, h => by
    refine ⟨?_, plOk_seq r (k + 1) (o + (cellsL v).length) (pre ++ [(o, (cellsL v).length)]) places (by simp [hk]) (by rw [h]; simp [seqs])⟩
    subst hk
    rw [h]
    simp [seqs]
theorem flatV_length : ∀ vs : List Value, (flatV vs).length = (vs.map fun v => (cellsL v).length).sum
  | [] => rfl
  | v :: r => by
    have h := flatV_length r
    rw [show flatV (v :: r) = cellsL v ++ flatV r from rfl, List.length_append, h]
    rfl
theorem built_seq {P : Program} {t : TypeId} {tot : Nat} {places : List (Nat × Nat)} {vs : List Value} {sizes : List Nat} (hP : placesS P t = some (tot, places)) (hq : seqs 0 sizes = places) (ht : sizes.sum = tot) (hs : vs.map (fun v => (cellsL v).length) = sizes) :
    P.built t ((List.range vs.length).zip vs) = some (flatV vs).toArray := by
  unfold placesS at hP
  unfold Program.built
  cases hit : P.info? t with
  | none => simp [hit] at hP
  | some it =>
    cases hu : P.underlying t with
    | none => simp [hit, hu] at hP
    | some dd =>
      cases dd <;> try (simp [hit, hu] at hP; done)
      rename_i fields
      simp only [hit, hu] at hP ⊢
      cases hz : it.zero with
      | none => simp [hz] at hP
      | some z =>
        cases hm : fields.toList.mapM (fun f => (P.info? f.type).map fun i => (f.offset, i.size)) with
        | none => rw [hz, hm] at hP; simp at hP
        | some pl =>
          rw [hz, hm] at hP
          simp only [Option.some.injEq, Prod.mk.injEq] at hP
          obtain ⟨h1, h2⟩ := hP
          subst h2
          have hfl : (flatV vs).length = (cellsL z).length := by rw [flatV_length, hs, ht, h1]
          have h3 := fillSeq (fun i => pl.toArray[i]?) vs 0 0 (cellsL z) (plOk_seq vs 0 0 [] pl rfl (by rw [hs, hq]; rfl)) (by omega)
          simp only [hz]
          rw [List.range_eq_range']
          have e : z.cells = (cellsL z).toArray := by simp [cellsL]
          rw [e, h3]
          rw [Nat.zero_add, hfl]
          simp
section
variable {P : Program} {n : Nat} {S : List Nat} {w0 : World} {ops : Array Oper} {Q : QE} {rest : List Oper} {d : Tmp} {ty : TypeId} {pos : String} {af : Array Edge} {g : Option (Nat × Bool)} {env : Env} {L : List Res}
theorem q_buildS {t : TypeId} {pr : Array (Nat × Operand)} {tot : Nat} {places : List (Nat × Nat)} {vs : List Value} {sizes : List Nat} {c' : List Value} (hP : placesS P t = some (tot, places)) (hq : seqs 0 sizes = places) (ht : sizes.sum = tot)
    (hp : evalsE env (pr.toList.map (·.2)) = some vs) (hi : pr.toList.map (·.1) = List.range vs.length) (hs : vs.map (fun v => (cellsL v).length) = sizes) (hc : flatV vs = c') :
    QT P n S w0 { dst := some d, op := .build t pr, type := ty, pos, after := af, guard := g } env L (.val (.agg c'.toArray)) :=
  q_build (c' := c') hp (by rw [hi, ← hc]; exact built_seq hP hq ht hs)
/-- a row of bytes, converted to its own type -/
theorem set_self {α : Type} {l : List α} {k : Nat} {x : α} (h : l[k]? = some x) : l.set k x = l := by
  apply List.ext_getElem?
  intro i
  rw [List.getElem?_set]
  split
  · rename_i hi; subst hi
    have := (List.getElem?_eq_some_iff.1 h).1
    rw [if_pos this, h]
  · rfl
theorem l_convS {t e T : TypeId} {x : Operand} {b m cap size r : Nat} {xs : List Value} (k : Nat) (hu : P.underlying t = some (.slice e)) (he : P.underlying e = some (.int .u8)) (hx : evalE env x = some (.slice (some ⟨b, 0, none⟩) m cap)) (hk : L[k]? = some (.row T size (.slice (some ⟨b, 0, none⟩) m cap) r xs)) (hd : dstOk n (some d) = true)
    (h : VL P n S w0 ops Q rest ((d, .slice (some ⟨b, 0, none⟩) m cap) :: env) L) :
    VL P n S w0 ops Q ({ dst := some d, op := .convert t t x, type := ty, pos, after := af, guard := none } :: rest) env L :=
  vl_run trivial fun a w hm H => by
    obtain ⟨hl, hh⟩ := H.get hk
    rcases hh with ⟨e1, _⟩ | ⟨b', cap', more, e1, h1, h2, h3, ⟨fz, h4, h5⟩⟩
    · cases e1
    · cases e1
      have hsh : w.shape? b = some (T, (xs ++ more).length) := by simp [World.shape?, h4]
      have hw : (w.freeze ⟨b, (xs ++ more).length, none⟩ 1).heap[b]? = some (.cells (xs ++ more).toArray T (if fz.1 == fz.2 then ((xs ++ more).length, (xs ++ more).length + 1) else (min fz.1 (xs ++ more).length, max fz.2 ((xs ++ more).length + 1)))) := by
        simp only [World.freeze, Nat.one_ne_zero, if_false]
        rw [Array.getElem?_modify]
        simp [h4]
      have hg : w.grownBy (w.freeze ⟨b, (xs ++ more).length, none⟩ 1) (some b) := ⟨rfl, rfl, rfl, by simp [World.freeze], fun j _ hj => by
        simp only [World.freeze, Nat.one_ne_zero, if_false]
        rw [Array.getElem?_modify]
        have : b ≠ j := fun h => hj (by simp [h])
        simp [this]⟩
      have hok : Row (w.freeze ⟨b, (xs ++ more).length, none⟩ 1) T size (.slice (some ⟨b, 0, none⟩) m cap) m xs := by
        refine ⟨hl, .inr ⟨b, cap, more, rfl, h1, h2, h3, ⟨_, hw, ?_⟩⟩⟩
        rcases h5 with h5 | h5
        · rw [if_pos (by simp [h5])]
          exact .inr (Nat.le_refl _)
        · split
          · exact .inr (Nat.le_refl _)
          · right
            show (xs ++ more).length ≤ min fz.1 (xs ++ more).length
            omega
      have H' := H.change hk (r' := .row T size (.slice (some ⟨b, 0, none⟩) m cap) m xs) hg hok (fun _ hb => .inl hb)
      rw [set_self hk] at H'
      refine opw_val (v := .slice (some ⟨b, 0, none⟩) m cap) (w' := w.freeze ⟨b, (xs ++ more).length, none⟩ 1) ?_ (h.run _ _ (hm.put hd _) H')
      simp [execOp, hm.eval hx, convert, run_underlying hu, run_underlying he, markStringish, hsh, Result.andThen]
/-- truths that are compared -/
theorem q_eqBo {T T' : TypeId} {x y : Operand} {p q : Bool} (hT : P.underlying T = some .bool) (hx : evalE env x = some (.bool p)) (hy : evalE env y = some (.bool q)) :
    QT P n S w0 { dst := some d, op := .binOp .eql T x y T', type := ty, pos, after := af, guard := g } env L (.val (.bool (p == q))) :=
  q_bin hx hy fun w => by
    have h1 : (Op.equal T (.bool p) (.bool q)).run P w = .ok (p == q) w := run_equalIn_bool w 9999 T p q hT
    have h2 : eqGuard .eql T x y (.bool p) (.bool q) = pure () := rfl
    have h3 : binOp .eql T (.bool p) (.bool q) = (do pure (.bool (← Op.equal T (.bool p) (.bool q)))) := by cases p <;> cases q <;> rfl
    rw [h2, h3]
    simp [h1]
/-- strings that may differ -/
theorem q_neStr {T T' : TypeId} {x y : Operand} {l m : List UInt8} (hT : P.underlying T = some .string) (hx : evalE env x = some (.string ⟨l.toArray⟩)) (hy : evalE env y = some (.string ⟨m.toArray⟩)) :
    QT P n S w0 { dst := some d, op := .binOp .neq T x y T', type := ty, pos, after := af, guard := g } env L (.val (.bool (!decide (l = m)))) :=
  q_bin hx hy fun w => by
    simp [eqGuard, binOp, Op.stringOp]
    rw [Bool.eq_iff_iff]
    simp
end
end Go.PBYtngdppffcdhhlaa
