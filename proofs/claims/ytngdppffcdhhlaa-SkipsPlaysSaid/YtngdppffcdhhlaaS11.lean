/- Keys of messages that are kept, as plain lists: no program in sight. No condition. -/
import Derived.Test.YtngdppffcdhhlaaPM
import Derived.Test.YtngdppffcdhhlaaPS
import Derived.Lib.Hide
namespace Go.PBYtngdppffcdhhlaa
open Go Go.RowKit
set_option linter.unusedVariables false
set_option linter.unusedSimpArgs false

/-- whose, which, and the key -/
structure Ent where
  p : List UInt8
  n : Int
  k : List UInt8
deriving DecidableEq

def Ent.key (e : Ent) : List UInt8 × Int := (e.p, e.n)
structure Ent.ok (e : Ent) : Prop where
  p : e.p.length = 32
  k : e.k.length = 32
  n : (Lit.int .i64 e.n).wf = true
/-- the cells of a key, in the order's row and in the map -/
def kc (x : List UInt8 × Int) : List Value := bys x.1 ++ [.int .i64 x.2]
def Ent.kc (e : Ent) : List Value := PBYtngdppffcdhhlaa.kc e.key
def ordC (L : List Ent) : List Value := (L.map Ent.kc).flatten
def mapE (L : List Ent) : List (Value × Value) := L.map fun e => (.agg e.kc.toArray, .agg (bys e.k).toArray)
structure GoodL (L : List Ent) : Prop where
  ok : ∀ e ∈ L, e.ok
  keys : (L.map Ent.key).Nodup

theorem bys_inj : ∀ {a b : List UInt8}, bys a = bys b → a = b
  | [], [], _ => rfl
  | [], _ :: _, h => by simp [bys] at h
  | _ :: _, [], h => by simp [bys] at h
  | x :: a, y :: b, h => by
    simp only [bys, List.map_cons, List.cons.injEq, Value.int.injEq, true_and] at h
    have h1 : x = y := UInt8.toNat_inj.1 (by omega)
    rw [h1, bys_inj (show bys a = bys b from h.2)]
theorem kc_length {x : List UInt8 × Int} (h : x.1.length = 32) : (kc x).length = 33 := by simp [kc, bys, h]
theorem kc_inj {x y : List UInt8 × Int} (h : kc x = kc y) : x = y := by
  obtain ⟨p, n⟩ := x
  obtain ⟨q, m⟩ := y
  simp only [kc] at h
  have h1 := List.append_inj' h (by simp)
  have h2 := bys_inj h1.1
  have h3 : n = m := by simpa using h1.2
  rw [h2, h3]
def ofKinds : List IntKind := List.replicate 32 .u8 ++ [.i64]
theorem fits_kc {x : List UInt8 × Int} (h : x.1.length = 32) (hn : (Lit.int .i64 x.2).wf = true) : Fits (kc x) ofKinds := by
  have h1 := fits_bys x.1
  rw [h] at h1
  exact h1.append (fits_int hn)
theorem ordC_length {L : List Ent} (h : ∀ e ∈ L, e.ok) : (ordC L).length = L.length * 33 := by
  induction L with
  | nil => rfl
  | cons e L ih =>
    have h1 := ih (fun x hx => h x (by simp [hx]))
    have h2 : e.kc.length = 33 := kc_length (h e (by simp)).p
    simp only [ordC, List.map_cons, List.flatten_cons, List.length_append] at h1 ⊢
    rw [h1, h2, List.length_cons]
    omega
theorem ordC_append (L M : List Ent) : ordC (L ++ M) = ordC L ++ ordC M := by simp [ordC]
theorem ordC_part {L : List Ent} (h : ∀ e ∈ L, e.ok) {j : Nat} {e : Ent} (hj : L[j]? = some e) : ((ordC L).drop (j * 33)).take 33 = e.kc := by
  have hlt := (List.getElem?_eq_some_iff.1 hj).1
  have hs : L = L.take j ++ e :: L.drop (j + 1) := by
    conv => lhs; rw [← List.take_append_drop j L]
    congr 1
    rw [List.drop_eq_getElem_cons hlt]
    congr 1
    exact (List.getElem?_eq_some_iff.1 hj).2
  have hm : e ∈ L := List.mem_of_getElem? hj
  have h1 : (ordC (L.take j)).length = j * 33 := by
    rw [ordC_length (fun x hx => h x (List.mem_of_mem_take hx)), List.length_take, Nat.min_eq_left (by omega)]
  have h2 : e.kc.length = 33 := kc_length (h e hm).p
  have h3 : ordC L = ordC (L.take j) ++ (e.kc ++ ordC (L.drop (j + 1))) := by
    conv => lhs; rw [hs]
    simp [ordC]
  rw [h3, List.drop_left' h1, List.take_left' h2]
theorem ordC_erase {L : List Ent} (h : ∀ e ∈ L, e.ok) (j : Nat) : ordC (L.eraseIdx j) = (ordC L).take (j * 33) ++ (ordC L).drop ((j + 1) * 33) := by
  by_cases hj : j < L.length
  · have h1 : (ordC (L.take j)).length = j * 33 := by
      rw [ordC_length (fun x hx => h x (List.mem_of_mem_take hx)), List.length_take, Nat.min_eq_left (by omega)]
    have h2 : (ordC (L.take (j + 1))).length = (j + 1) * 33 := by
      rw [ordC_length (fun x hx => h x (List.mem_of_mem_take hx)), List.length_take, Nat.min_eq_left (by omega)]
    have e1 : ordC L = ordC (L.take j) ++ ordC (L.drop j) := by rw [← ordC_append, List.take_append_drop]
    have e2 : ordC L = ordC (L.take (j + 1)) ++ ordC (L.drop (j + 1)) := by rw [← ordC_append, List.take_append_drop]
    rw [List.eraseIdx_eq_take_drop_succ, ordC_append]
    congr 1
    · rw [e1, List.take_left' h1]
    · rw [e2, List.drop_left' h2]
  · rw [List.eraseIdx_of_length_le (by omega), List.take_of_length_le (by rw [ordC_length h]; omega), List.drop_eq_nil_of_le (by rw [ordC_length h]; omega), List.append_nil]
theorem GoodL.erase {L : List Ent} (h : GoodL L) (j : Nat) : GoodL (L.eraseIdx j) :=
  ⟨fun e he => h.ok e ((List.eraseIdx_sublist L j).subset he), ((List.eraseIdx_sublist L j).map _).nodup h.keys⟩
theorem mapE_erase (L : List Ent) (j : Nat) : mapE (L.eraseIdx j) = (mapE L).eraseIdx j := by
  simp only [mapE]
  rw [Go.ChangeMaps.map_eraseIdx]
end Go.PBYtngdppffcdhhlaa
