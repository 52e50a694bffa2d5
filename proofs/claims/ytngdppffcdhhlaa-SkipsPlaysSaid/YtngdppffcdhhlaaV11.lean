/- The store of kept keys: what is told of it, and the laws of maps for the walk without worlds. No condition. -/
import Derived.Test.YtngdppffcdhhlaaVN
import Derived.Test.YtngdppffcdhhlaaVF
import Derived.Test.YtngdppffcdhhlaaK11c
import Derived.Test.YtngdppffcdhhlaaPT
import Derived.Test.YtngdppffcdhhlaaPM
import Derived.Test.YtngdppffcdhhlaaVW
import Derived.Test.YtngdppffcdhhlaaVS
import Derived.Test.YtngdppffcdhhlaaY
import Derived.Test.YtngdppffcdhhlaaPF
namespace Go.PBYtngdppffcdhhlaa
open Go Go.RowKit
set_option linter.unusedVariables false
section
variable {P : Program} {n : Nat} {S : List Nat} {w0 : World} {ops : Array Oper} {Q : QE} {rest : List Oper} {d : Tmp} {ty : TypeId} {pos : String} {af : Array Edge} {g : Option (Nat × Bool)} {env : Env} {L : List Res}
theorem l_update {t kt et : TypeId} {x y u : Operand} {b : Nat} {o : Obj} {E : List (Value × Value)} {kv v : Value} {l : Lit} (k : Nat) (F : WideMaps.KeyLaw P kt) (hu : P.underlying t = some (.map kt et)) (hx : evalE env x = some (.map (some b))) (hy : evalE env y = some kv) (hv : evalE env u = some v)
    (hk : L[k]? = some (.obj b o)) (hE : MapOf o E) (hkey : keyOf P kt kv = some l) (hall : ∀ p ∈ E, ∃ l, keyOf P kt p.1 = some l) (hno : ∀ p ∈ E, p.1 ≠ kv)
    (h : ∀ o', MapOf o' (E ++ [(kv, v)]) → VL P n S w0 ops Q rest env (L.set k (.obj b o'))) :
    VL P n S w0 ops Q ({ dst := none, op := .mapUpdate t x y u, type := ty, pos, after := af, guard := none } :: rest) env L :=
  vl_run trivial fun a w hm H => opw_update F hu H hk hE (hm.eval hx) (hm.eval hy) (hm.eval hv) hkey hall hno fun w' o' h1 h2 => (h o' h1).run _ w' hm h2
theorem l_makeMap {t : TypeId} (hd : dstOk n (some d) = true) (h : ∀ b o, MapOf o [] → VL P n S w0 ops Q rest ((d, .map (some b)) :: env) (.obj b o :: L)) :
    VL P n S w0 ops Q ({ dst := some d, op := .makeMap t none, type := ty, pos, after := af, guard := none } :: rest) env L :=
  vl_run trivial fun a w hm H => opw_makeMap H fun w' b o h1 h2 => (h b o h1).run _ w' (hm.put hd _) (h2.perm List.perm_append_comm)
theorem q_neBo {T T' : TypeId} {x y : Operand} {p q : Bool} (hT : P.underlying T = some .bool) (hx : evalE env x = some (.bool p)) (hy : evalE env y = some (.bool q)) :
    QT P n S w0 { dst := some d, op := .binOp .neq T x y T', type := ty, pos, after := af, guard := g } env L (.val (.bool (!(p == q)))) :=
  q_bin hx hy fun w => by
    have h1 : (Op.equal T (.bool p) (.bool q)).run P w = .ok (p == q) w := run_equalIn_bool w 9999 T p q hT
    have h2 : eqGuard .neq T x y (.bool p) (.bool q) = pure () := rfl
    have h3 : binOp .neq T (.bool p) (.bool q) = (do pure (.bool (!(← Op.equal T (.bool p) (.bool q))))) := by cases p <;> cases q <;> rfl
    rw [h2, h3]
    simp [h1]
end
end Go.PBYtngdppffcdhhlaa
namespace Go.Proofs.Ytngdppffcdhhlaa
open Go.RowKit Go.PBYtngdppffcdhhlaa
set_option linter.unusedVariables false
set_option linter.unusedSimpArgs false
set_option maxRecDepth 10000

def zKey : List UInt8 := List.replicate 32 0
theorem keyInfo : (Try.prog.info? 23).map (·.zero) = some (some (.agg (bys zKey).toArray)) := by kernel_rfl
theorem kc_one (x : List UInt8 × Int) : ∀ u ∈ kc x, u.oneCell' = true := by
  intro u hu
  simp only [kc, List.mem_append, List.mem_singleton] at hu
  rcases hu with hu | rfl
  · exact bys_one _ u hu
  · rfl

def putR (L : List Ent) (e : Ent) : Int × List Ent :=
  if e.n < 0 then (1, L) else if e.key ∈ L.map Ent.key then (9, L) else (0, (L ++ [e]).drop (L.length + 1 - 8))

/-- what the map tells of a key: the key that is kept, or noughts -/
def askR (L : List Ent) (x : List UInt8 × Int) : List UInt8 × Bool :=
  match L.find? (fun e => decide (e.key = x)) with
  | some e => (e.k, true)
  | none => (zKey, false)

theorem askR_at {L : List Ent} (hG : GoodL L) {j : Nat} {e : Ent} (hj : L[j]? = some e) : askR L e.key = (e.k, true) := by
  unfold askR
  cases hf : L.find? (fun x => decide (x.key = e.key)) with
  | none =>
    have := List.find?_eq_none.1 hf e (List.mem_of_getElem? hj)
    simp at this
  | some x =>
    have h1 : x.key = e.key := by simpa using List.find?_some hf
    have hx : x ∈ L := List.mem_of_find?_eq_some hf
    obtain ⟨i, hi⟩ := List.mem_iff_getElem?.1 hx
    have h3 : (L.map Ent.key)[i]? = some e.key := by rw [List.getElem?_map, hi, ← h1]; rfl
    have h4 : (L.map Ent.key)[j]? = some e.key := by rw [List.getElem?_map, hj]; rfl
    have hil : i < (L.map Ent.key).length := (List.getElem?_eq_some_iff.1 h3).1
    have : i = j := (List.getElem?_inj hil hG.keys).1 (h3.trans h4.symm)
    subst this
    rw [hj] at hi
    obtain rfl := Option.some.inj hi
    rfl
theorem askR_no {L : List Ent} {x : List UInt8 × Int} (h : x ∉ L.map Ent.key) : askR L x = (zKey, false) := by
  unfold askR
  cases hf : L.find? (fun e => decide (e.key = x)) with
  | none => rfl
  | some e =>
    have h1 : e.key = x := by simpa using List.find?_some hf
    exact absurd (List.mem_map.2 ⟨e, List.mem_of_find?_eq_some hf, h1⟩) h
theorem askR_length {L : List Ent} (hG : GoodL L) (x : List UInt8 × Int) : (askR L x).1.length = 32 := by
  unfold askR
  cases hf : L.find? (fun e => decide (e.key = x)) with
  | none => simp [zKey]
  | some e => exact (hG.ok e (List.mem_of_find?_eq_some hf)).k

/-- asking the map -/
theorem opw_ask {S : List Nat} {w0 w : World} {LL : List Res} {Q : Exit → Act → World → Prop} {a : Act} {dst : Option Tmp} {ty : TypeId} {pos : String} {af : Array Edge} {g : Option (Nat × Bool)} {K : Act → World → Prop} {x y : Operand} {b k : Nat} {o : Obj} {L : List Ent} (z : List UInt8 × Int)
    (H : St S w0 LL w) (hk : LL[k]? = some (.obj b o)) (hE : MapOf o (mapE L)) (hG : GoodL L) (hz1 : z.1.length = 32) (hz2 : (Lit.int .i64 z.2).wf = true) (hx : a.eval x = .map (some b)) (hy : a.eval y = .agg (kc z).toArray)
    (h : K (a.put dst (.tuple #[.agg (bys (askR L z).1).toArray, .bool (askR L z).2])) w) :
    Oper.wp Try.prog { dst, op := .lookup 46 x y true, type := ty, pos, after := af, guard := g } a w K Q := by
  obtain ⟨l, hl⟩ := flatOf.key (kc z) (fits_kc hz1 hz2)
  cases hi : Try.prog.info? 23 with
  | none => have := keyInfo; rw [hi] at this; simp at this
  | some i =>
    have hzero : i.zero = some (.agg (bys zKey).toArray) := by have := keyInfo; rw [hi] at this; simpa using this
    have ho : w.heap[b]? = some o := H.ok _ (List.mem_of_getElem? hk)
    refine opw_lookup2 flatOf.law Try.underlying46 hi hzero ho hE hx hy hl (mapE_keyed hG) ?_ ?_
    · intro hno
      have : z ∉ L.map Ent.key := by
        intro hm
        obtain ⟨e, he, rfl⟩ := List.mem_map.1 hm
        exact hno (.agg e.kc.toArray, .agg (bys e.k).toArray) (List.mem_map.2 ⟨e, he, rfl⟩) rfl
      rw [askR_no this] at h
      exact h
    · intro j v hj
      have hj' := hj
      simp only [mapE, List.getElem?_map] at hj'
      cases he : L[j]? with
      | none => rw [he] at hj'; simp at hj'
      | some e =>
        rw [he] at hj'
        simp only [Option.map_some, Option.some.injEq, Prod.mk.injEq, Value.agg.injEq] at hj'
        have h1 : e.kc = kc z := by simpa using hj'.1
        have h2 : e.key = z := kc_inj h1
        subst h2
        rw [askR_at hG he] at h
        rw [← hj'.2]
        exact h


theorem q_ask {n : Nat} {S : List Nat} {w0 : World} {d : Tmp} {ty : TypeId} {pos : String} {af : Array Edge} {g : Option (Nat × Bool)} {env : Env} {LL : List Res} {x y : Operand} {b : Nat} {o : Obj} {L : List Ent} (k : Nat) (z : List UInt8 × Int)
    (hk : LL[k]? = some (.obj b o)) (hE : MapOf o (mapE L)) (hG : GoodL L) (hz1 : z.1.length = 32) (hz2 : (Lit.int .i64 z.2).wf = true) (hx : evalE env x = some (.map (some b))) (hy : evalE env y = some (.agg (kc z).toArray)) :
    QT Try.prog n S w0 { dst := some d, op := .lookup 46 x y true, type := ty, pos, after := af, guard := g } env LL (.val (.tuple #[.agg (bys (askR L z).1).toArray, .bool (askR L z).2])) :=
  ⟨fun a w hm H => opw_ask z H hk hE hG hz1 hz2 (hm.eval hx) (hm.eval hy) ⟨_, rfl, fun h => by simp at h, rfl, St.refl w⟩⟩
end Go.Proofs.Ytngdppffcdhhlaa
