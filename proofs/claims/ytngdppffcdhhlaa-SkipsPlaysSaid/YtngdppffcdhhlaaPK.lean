/- Arrays and structs of whole numbers alone: as keys of a map, and compared. No condition. -/
import Derived.Test.YtngdppffcdhhlaaPW
import Derived.DeepKeys4
import Derived.Laws.StructEq
namespace Go.PBYtngdppffcdhhlaa
open Go Go.RowKit
set_option linter.unusedSimpArgs false
set_option linter.unusedVariables false

/-- the kinds of a type's cells, where all are whole numbers, one behind the other -/
def flatFields (P : Program) (f : TypeId → Option (List IntKind)) : List Field → Nat → Option (List IntKind)
  | [], _ => some []
  | x :: r, off =>
    match f x.type with
    | none => none
    | some ks => if x.offset = off ∧ P.cellsOf x.type = ks.length ∧ (x.name != "_") = true then (flatFields P f r (off + ks.length)).map (ks ++ ·) else none
def flatAt (P : Program) : Nat → TypeId → Option (List IntKind)
  | 0, _ => none
  | d + 1, t =>
    match P.underlying t with
    | some (.int q) => some [q]
    | some (.array n e) => match flatAt P d e with
      | none => none
      | some ks => if P.cellsOf e = ks.length ∧ P.cellsOf t = n * ks.length then some (List.replicate n ks).flatten else none
    | some (.struct fs) => match flatFields P (flatAt P d) fs.toList 0 with
      | none => none
      | some ks => if P.cellsOf t = ks.length then some ks else none
    | _ => none

/-- cells of these kinds -/
def Fits (cs : List Value) (ks : List IntKind) : Prop := cs.length = ks.length ∧ ∀ (i : Nat) q, ks[i]? = some q → ∃ n, cs[i]? = some (.int q n) ∧ (Lit.int q n).wf = true

theorem Fits.append {a b : List Value} {k l : List IntKind} (h : Fits a k) (g : Fits b l) : Fits (a ++ b) (k ++ l) := by
  refine ⟨by simp [h.1, g.1], fun i q hi => ?_⟩
  by_cases hik : i < k.length
  · rw [List.getElem?_append_left hik] at hi
    rw [List.getElem?_append_left (by rw [h.1]; exact hik)]
    exact h.2 i q hi
  · rw [List.getElem?_append_right (by omega)] at hi
    rw [List.getElem?_append_right (by rw [h.1]; omega), h.1]
    exact g.2 _ q hi
theorem Fits.part {cs : List Value} {p k r : List IntKind} (h : Fits cs (p ++ k ++ r)) : Fits ((cs.drop p.length).take k.length) k := by
  have h1 := h.1
  simp only [List.length_append] at h1
  refine ⟨by simp; omega, fun i q hi => ?_⟩
  have hik := (List.getElem?_eq_some_iff.1 hi).1
  rw [List.getElem?_take, if_pos hik, List.getElem?_drop]
  refine h.2 (p.length + i) q ?_
  rw [List.append_assoc, List.getElem?_append_right (by omega), List.getElem?_append_left (by omega)]
  rw [← hi]
  congr 1
  omega
theorem replicate_part (n : Nat) (k : List IntKind) (i : Nat) (hi : i < n) : (List.replicate n k).flatten = (List.replicate i k).flatten ++ k ++ (List.replicate (n - 1 - i) k).flatten := by
  obtain ⟨r, rfl⟩ : ∃ r, n = i + (1 + r) := ⟨n - 1 - i, by omega⟩
  rw [show i + (1 + r) - 1 - i = r by omega, ← List.replicate_append_replicate, ← List.replicate_append_replicate, List.flatten_append, List.flatten_append]
  simp
theorem flatten_rep_length (i : Nat) (k : List IntKind) : ((List.replicate i k).flatten).length = i * k.length := by simp
theorem mapM_some {α β : Type} (f : α → Option β) : ∀ (L : List α), (∀ x ∈ L, ∃ y, f x = some y) → ∃ ys, L.mapM f = some ys
  | [], _ => ⟨[], rfl⟩
  | x :: L, h => by
    obtain ⟨y, hy⟩ := h x (by simp)
    obtain ⟨ys, hys⟩ := mapM_some f L (fun z hz => h z (by simp [hz]))
    exact ⟨y :: ys, by simp [List.mapM_cons, hy, hys]⟩

theorem flatFields_at {P : Program} {f : TypeId → Option (List IntKind)} : ∀ (fs : List Field) (off : Nat) (ks : List IntKind), flatFields P f fs off = some ks → ∀ x ∈ fs, ∃ p k r, ks = p ++ k ++ r ∧ f x.type = some k ∧ x.offset = off + p.length ∧ P.cellsOf x.type = k.length ∧ (x.name != "_") = true
  | [], _, _, _, x, hx => by simp at hx
  | y :: fs, off, ks, h, x, hx => by
    simp only [flatFields] at h
    cases hf : f y.type with
    | none => rw [hf] at h; simp at h
    | some k0 =>
      rw [hf] at h
      simp only at h
      split at h
      · rename_i hc
        cases hr : flatFields P f fs (off + k0.length) with
        | none => rw [hr] at h; simp at h
        | some kr =>
          rw [hr] at h
          simp only [Option.map_some, Option.some.injEq] at h
          subst h
          rcases List.mem_cons.1 hx with rfl | hx
          · exact ⟨[], k0, kr, by simp, hf, by simpa using hc.1, hc.2.1, hc.2.2⟩
          · obtain ⟨p, k, r, e, h1, h2, h3⟩ := flatFields_at fs _ kr hr x hx
            subst e
            exact ⟨k0 ++ p, k, r, by simp, h1, by simp [h2]; omega, h3⟩
      · simp at h

theorem keyLits_flat {P : Program} : ∀ (d : Nat) (t : TypeId) (ks : List IntKind) (cs : List Value), flatAt P d t = some ks → Fits cs ks → ∃ ls, P.keyLits d t cs = some ls
  | 0, _, _, _, h, _ => by simp [flatAt] at h
  | d + 1, t, ks, cs, h, hf => by
    unfold flatAt at h
    unfold Program.keyLits
    cases hu : P.underlying t with
    | none => rw [hu] at h; simp at h
    | some desc =>
      rw [hu] at h
      cases desc with
      | int q =>
        simp only [Option.some.injEq] at h
        subst h
        obtain ⟨n, h1, h2⟩ := hf.2 0 q rfl
        have hl := hf.1
        obtain ⟨c, rfl⟩ : ∃ c, cs = [c] := by
          match cs, hl with
          | [c], _ => exact ⟨c, rfl⟩
        simp at h1
        subst h1
        exact ⟨[.int q n], by simp [h2]⟩
      | array n e =>
        simp only at h
        cases hk : flatAt P d e with
        | none => rw [hk] at h; simp at h
        | some k =>
          rw [hk] at h
          simp only at h
          split at h
          · rename_i hc
            simp only [Option.some.injEq] at h
            subst h
            have hlen : cs.length = P.cellsOf t := by rw [hf.1, flatten_rep_length, hc.2]
            simp only [hlen, if_true]
            obtain ⟨ys, hys⟩ := mapM_some (fun i => P.keyLits d e ((cs.drop (i * P.cellsOf e)).take (P.cellsOf e))) (List.range n) (fun i hi => by
              have hi' := List.mem_range.1 hi
              rw [replicate_part n k i hi'] at hf
              have := hf.part
              rw [flatten_rep_length] at this
              rw [hc.1]
              exact keyLits_flat d e k _ hk this)
            exact ⟨ys.flatten, by rw [hys]; rfl⟩
          · simp at h
      | struct fs =>
        simp only at h
        cases hk : flatFields P (flatAt P d) fs.toList 0 with
        | none => rw [hk] at h; simp at h
        | some k =>
          rw [hk] at h
          simp only at h
          split at h
          · rename_i hc
            simp only [Option.some.injEq] at h
            subst h
            have hlen : cs.length = P.cellsOf t := by rw [hf.1, hc]
            have hat := flatFields_at fs.toList 0 k hk
            have hnm : fs.all (fun x => x.name != "_") = true := by
              rw [← Array.all_toList, List.all_eq_true]
              intro x hx
              obtain ⟨p, k1, r, e, h1, h2, h3, h4⟩ := hat x hx
              exact h4
            obtain ⟨ys, hys⟩ := mapM_some (fun x : Field => P.keyLits d x.type ((cs.drop x.offset).take (P.cellsOf x.type))) fs.toList (fun x hx => by
              obtain ⟨p, k1, r, e, h1, h2, h3, h4⟩ := hat x hx
              subst e
              have := hf.part
              rw [h2, h3, Nat.zero_add]
              exact keyLits_flat d x.type k1 _ h1 this)
            refine ⟨ys.flatten, ?_⟩
            simp only [hlen, true_and]
            rw [if_pos hnm, hys]
            rfl
          · simp at h
      | _ => simp at h

/-- k is an array or a struct of whole numbers alone, of these kinds -/
structure Flat (P : Program) (k : TypeId) (ks : List IntKind) : Prop where
  law : WideMaps.KeyLaw P k
  calm : P.eqGuardType P.depth k = false
  key : ∀ cs, Fits cs ks → ∃ l, keyOf P k (.agg cs.toArray) = some l
  eq : ∀ (w : World) {x y : Value} {lx ly : Lit}, keyOf P k x = some lx → keyOf P k y = some ly → ∃ r : Bool, (Op.equal k x y).run P w = .ok r w ∧ (r = true ↔ lx = ly)

theorem flat_of {P : Program} {k : TypeId} {ks : List IntKind} {m : Nat} (hl : laidOutB P = true) (hm : m + 1 ≤ 10000) (hrow : k < P.types.size) (hk : P.keyTypeAt m k = true) (hkt : P.keyType k = true)
    (hwide : (match P.underlying k with | some (.array _ _) | some (.struct _) => true | _ => false) = true) (hf : flatAt P (P.types.size + 1) k = some ks) (hc : P.cellsOf k = ks.length) (hg : P.eqGuardType P.depth k = false) : Flat P k ks where
  calm := hg
  law := deep_law_laid hl hm hrow hk hwide
  key := fun cs h => by
    obtain ⟨ls, hls⟩ := keyLits_flat _ k ks cs hf h
    have hform : (Value.agg cs.toArray).formed P k = true := by
      unfold Value.formed
      cases hu : P.underlying k with
      | none => rw [hu] at hwide; simp at hwide
      | some d =>
        rw [hu] at hwide
        cases d <;> simp at hwide <;> simp [h.1, hc]
    unfold keyOf
    cases hu : P.underlying k with
    | none => rw [hu] at hwide; simp at hwide
    | some d =>
      rw [hu] at hwide
      cases d <;> simp at hwide <;> simp [hkt, hform, Value.cells, hls]
  eq := fun w {x y lx ly} hx hy => run_equal_deep w (by omega) hk hwide hx hy

theorem Flat.equal {P : Program} {k : TypeId} {ks : List IntKind} (F : Flat P k ks) (w : World) {xs ys : List Value} (hx : Fits xs ks) (hy : Fits ys ks) :
    ∃ r : Bool, (Op.equal k (.agg xs.toArray) (.agg ys.toArray)).run P w = .ok r w ∧ (r = true ↔ xs = ys) := by
  obtain ⟨lx, h1⟩ := F.key xs hx
  obtain ⟨ly, h2⟩ := F.key ys hy
  obtain ⟨r, hr, hi⟩ := F.eq w h1 h2
  refine ⟨r, hr, hi.trans ⟨?_, ?_⟩⟩
  · rintro rfl
    have := F.law.inj h1 h2
    simpa using this
  · rintro rfl
    rw [h1] at h2
    exact Option.some.inj h2

theorem run_eqlA {P : Program} {k : TypeId} {ks : List IntKind} (F : Flat P k ks) (w : World) {xs ys : List Value} (hx : Fits xs ks) (hy : Fits ys ks) (r : Bool) (hr : r = true ↔ xs = ys) :
    (binOp .eql k (.agg xs.toArray) (.agg ys.toArray)).run P w = .ok (.bool r) w := by
  obtain ⟨r', h1, h2⟩ := F.equal w hx hy
  have : r' = r := by rw [Bool.eq_iff_iff, h2, hr]
  subst this
  have h3 : (Op.equalIn 10000 k (.agg xs.toArray) (.agg ys.toArray)).run P w = .ok r' w := h1
  rw [run_eql_struct, h3]
  rfl
theorem run_neqA {P : Program} {k : TypeId} {ks : List IntKind} (F : Flat P k ks) (w : World) {xs ys : List Value} (hx : Fits xs ks) (hy : Fits ys ks) (r : Bool) (hr : r = true ↔ xs = ys) :
    (binOp .neq k (.agg xs.toArray) (.agg ys.toArray)).run P w = .ok (.bool (!r)) w := by
  obtain ⟨r', h1, h2⟩ := F.equal w hx hy
  have : r' = r := by rw [Bool.eq_iff_iff, h2, hr]
  subst this
  have h3 : (Op.equalIn 10000 k (.agg xs.toArray) (.agg ys.toArray)).run P w = .ok r' w := h1
  rw [run_neq_struct, h3]
  rfl

section
variable {P : Program} {w : World} {Q : Exit → Act → World → Prop} {a : Act} {dst : Option Tmp} {ty : TypeId} {pos : String} {af : Array Edge} {g : Option (Nat × Bool)}
theorem opw_eqA {K : Act → World → Prop} {t t2 : TypeId} {x y : Operand} {ks : List IntKind} {xs ys : List Value} {r : Bool} (F : Flat P t ks) (hx : a.eval x = .agg xs.toArray) (hy : a.eval y = .agg ys.toArray) (fx : Fits xs ks) (fy : Fits ys ks) (hr : r = true ↔ xs = ys)
    (h : K (a.put dst (.bool r)) w) : Oper.wp P { dst, op := .binOp .eql t x y t2, type := ty, pos, after := af, guard := g } a w K Q :=
  opw_val (v := .bool r) (w' := w) (by simp [execOp, hx, hy, run_eqGuard_agg _ _ _ _ _ _ _ F.calm, run_eqlA F w fx fy r hr, Result.andThen]) h
theorem opw_neA {K : Act → World → Prop} {t t2 : TypeId} {x y : Operand} {ks : List IntKind} {xs ys : List Value} {r : Bool} (F : Flat P t ks) (hx : a.eval x = .agg xs.toArray) (hy : a.eval y = .agg ys.toArray) (fx : Fits xs ks) (fy : Fits ys ks) (hr : r = true ↔ xs = ys)
    (h : K (a.put dst (.bool (!r))) w) : Oper.wp P { dst, op := .binOp .neq t x y t2, type := ty, pos, after := af, guard := g } a w K Q :=
  opw_val (v := .bool (!r)) (w' := w) (by simp [execOp, hx, hy, run_eqGuard_agg _ _ _ _ _ _ _ F.calm, run_neqA F w fx fy r hr, Result.andThen]) h
end

/-- bytes fit -/
theorem fits_bys (l : List UInt8) : Fits (bys l) (List.replicate l.length .u8) := by
  refine ⟨by simp [bys], fun i q hi => ?_⟩
  have hil := (List.getElem?_eq_some_iff.1 hi).1
  rw [List.length_replicate] at hil
  have : q = .u8 := by
    rw [List.getElem?_replicate, if_pos hil] at hi
    exact (Option.some.inj hi).symm
  subst this
  refine ⟨(l[i].toNat : Int), by rw [bys_get, List.getElem?_eq_getElem hil]; rfl, ?_⟩
  have := l[i].toNat_lt
  exact WalkArith.wf_u8 (by omega)
theorem fits_int {k : IntKind} {n : Int} (h : (Lit.int k n).wf = true) : Fits [.int k n] [k] :=
  ⟨rfl, fun i q hi => by
    cases i with
    | zero => simp at hi; subst hi; exact ⟨n, rfl, h⟩
    | succ i => simp at hi⟩
end Go.PBYtngdppffcdhhlaa
