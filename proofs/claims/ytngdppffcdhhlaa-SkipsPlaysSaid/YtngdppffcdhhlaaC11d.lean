/- What the functions of package skips do, among other things: a key is put, a key is taken; the last eight. Conditions: at most eight are kept. -/
import Derived.Test.YtngdppffcdhhlaaC11c
namespace Go.PBYtngdppffcdhhlaa
open Go Go.RowKit
set_option linter.unusedVariables false
/-- of all that were put, those that are kept -/
def lastL (f : List Ent) : List Ent := f.drop (f.length - 8)
theorem lastL_sub (f : List Ent) : (lastL f).Sublist f := List.drop_sublist _ _
theorem lastL_length (f : List Ent) : (lastL f).length = min f.length 8 := by rw [lastL, List.length_drop]; omega
theorem GoodL.sub {L M : List Ent} (h : GoodL L) (hs : M.Sublist L) : GoodL M := ⟨fun e he => h.ok e (hs.subset he), (hs.map _).nodup h.keys⟩
theorem lastL_good {f : List Ent} (h : GoodL f) : GoodL (lastL f) := h.sub (lastL_sub f)
theorem lastL_snoc (f : List Ent) (e : Ent) : (lastL f ++ [e]).drop ((lastL f).length + 1 - 8) = lastL (f ++ [e]) := by
  have h : lastL f ++ [e] = (f ++ [e]).drop (f.length - 8) := by rw [lastL, List.drop_append_of_le_length (by omega)]
  rw [h, lastL_length, List.drop_drop, lastL, List.length_append]
  congr 1
  simp only [List.length_cons, List.length_nil]
  omega
theorem takeR_sub (L : List Ent) (z : List UInt8 × Int) : (takeR L z).Sublist L := List.eraseP_sublist
theorem takeR_good {L : List Ent} (h : GoodL L) (z : List UInt8 × Int) : GoodL (takeR L z) := h.sub (takeR_sub L z)
theorem takeR_no {L : List Ent} (h : GoodL L) (z : List UInt8 × Int) : z ∉ (takeR L z).map Ent.key := by
  by_cases hz : z ∈ L.map Ent.key
  · obtain ⟨j, e, hj, rfl⟩ := key_at hz
    rw [take_at h.keys hj]
    intro hm
    obtain ⟨i, x, hi, hx⟩ := key_at hm
    have hnd := h.keys
    have h3 : (L.map Ent.key).eraseIdx j = (L.eraseIdx j).map Ent.key := (Go.ChangeMaps.map_eraseIdx ..).symm
    rw [← h3] at hm
    obtain ⟨i, hi⟩ := List.mem_iff_getElem?.1 hm
    rw [List.getElem?_eraseIdx] at hi
    have h4 : (L.map Ent.key)[j]? = some e.key := by rw [List.getElem?_map, hj]; rfl
    have hjl := (List.getElem?_eq_some_iff.1 h4).1
    split at hi
    · have hil := (List.getElem?_eq_some_iff.1 hi).1
      have := (List.getElem?_inj hil hnd).1 (hi.trans h4.symm)
      omega
    · have hil := (List.getElem?_eq_some_iff.1 hi).1
      have := (List.getElem?_inj hil hnd).1 (hi.trans h4.symm)
      omega
  · rw [take_no hz]; exact hz
end Go.PBYtngdppffcdhhlaa
namespace Go.Proofs.Ytngdppffcdhhlaa
open Go.RowKit Go.PBYtngdppffcdhhlaa
set_option linter.unusedVariables false
set_option linter.unusedSimpArgs false
set_option maxRecDepth 10000

theorem SkC.swap {S : List Nat} {w0 w w' : World} {b m : Nat} {o : Obj} {A : Option Addr} {c : Nat} {L L' : List Ent} {R : List Res} (H : St S w0 (SkR b m o A c L ++ R) w) (h : SkC (ats (SkR b m o A c L)) w b m L' [] w') : SkC S w0 b m L' R w' := by
  obtain ⟨o', A', c', h1, h2⟩ := h
  rw [List.append_nil] at h2
  exact ⟨o', A', c', h1, H.swap h2⟩
theorem put_calls {S : List Nat} {w0 w : World} {b m : Nat} {o : Obj} {A : Option Addr} {c : Nat} {L : List Ent} {R : List Res} (e : Ent) (lp : e.p.length = 32) (lk : e.k.length = 32) (hnw : (Lit.int .i64 e.n).wf = true) (H : St S w0 (SkR b m o A c L ++ R) w) (hE : MapOf o (mapE L)) (hG : GoodL L) (hl : L.length ≤ 8) :
    Calls Try.prog 10 #[vP b 0, .agg (bys e.p).toArray, vI e.n, .agg (bys e.k).toArray] w fun r w' => r = .returned (.int .i64 (putR L e).1) ∧ SkC S w0 b m (putR L e).2 R w' := by
  unfold putR
  by_cases h1 : e.n < 0
  · rw [if_pos h1]
    exact (put_neg e lp lk hnw H.own hE hG h1).mono fun r w' h => ⟨h.1, SkC.swap H h.2⟩
  · rw [if_neg h1]
    by_cases h2 : e.key ∈ L.map Ent.key
    · rw [if_pos h2]
      exact (put_twice e lp lk hnw H.own hE hG h1 h2).mono fun r w' h => ⟨h.1, SkC.swap H h.2⟩
    · rw [if_neg h2]
      by_cases h3 : L.length < 8
      · have e1 : (L ++ [e]).drop (L.length + 1 - 8) = L ++ [e] := by rw [show L.length + 1 - 8 = 0 by omega, List.drop_zero]
        simp only [e1]
        exact (put_new e lp lk hnw H.own hE hG h1 h2 h3).mono fun r w' h => ⟨h.1, SkC.swap H h.2⟩
      · have e1 : (L ++ [e]).drop (L.length + 1 - 8) = (L ++ [e]).eraseIdx 0 := by rw [show L.length + 1 - 8 = 1 by omega, List.eraseIdx_zero, List.drop_one]
        simp only [e1]
        exact (put_full e lp lk hnw H.own hE hG h1 h2 (by omega)).mono fun r w' h => ⟨h.1, SkC.swap H h.2⟩
theorem take_calls {S : List Nat} {w0 w : World} {b m : Nat} {o : Obj} {A : Option Addr} {c : Nat} {L : List Ent} {R : List Res} (p : List UInt8) (n : Int) (lp : p.length = 32) (hnw : (Lit.int .i64 n).wf = true) (H : St S w0 (SkR b m o A c L ++ R) w) (hE : MapOf o (mapE L)) (hG : GoodL L) (hl : L.length ≤ 8) :
    Calls Try.prog 12 #[vP b 0, .agg (bys p).toArray, vI n] w fun r w' => r = .returned (.tuple #[.agg (bys (askR L (p, n)).1).toArray, .bool (askR L (p, n)).2]) ∧ SkC S w0 b m (takeR L (p, n)) R w' := by
  by_cases h1 : (p, n) ∈ L.map Ent.key
  · obtain ⟨j, e, hj, he⟩ := key_at h1
    obtain ⟨rfl, rfl⟩ : e.p = p ∧ e.n = n := by simpa [Ent.key] using he
    have h2 := askR_at hG hj
    rw [he] at h2
    have h3 := take_at hG.keys hj
    rw [he] at h3
    rw [h2, h3]
    exact (take_yes j e H.own hE hG hj (by omega)).mono fun r w' h => ⟨h.1, SkC.swap H h.2⟩
  · rw [askR_no h1, take_no h1]
    exact (take_none p n H.own hE hG lp hnw h1).mono fun r w' h => ⟨h.1, SkC.swap H h.2⟩
theorem put_last {f : List Ent} {e : Ent} (hn : 0 ≤ e.n) (hno : e.key ∉ f.map Ent.key) : putR (lastL f) e = (0, lastL (f ++ [e])) := by
  unfold putR
  rw [if_neg (by omega), if_neg (fun h => hno (((lastL_sub f).map _).subset h)), lastL_snoc]
theorem putR_good {L : List Ent} {e : Ent} (h : GoodL L) (he : e.ok) : GoodL (putR L e).2 := by
  unfold putR
  split
  · exact h
  · split
    · exact h
    · rename_i hno
      exact (h.snoc he hno).sub (List.drop_sublist _ _)
theorem putR_length {L : List Ent} {e : Ent} (h : L.length ≤ 8) : (putR L e).2.length ≤ 8 := by
  unfold putR
  split
  · exact h
  · split
    · exact h
    · simp only [List.length_drop, List.length_append, List.length_cons, List.length_nil]; omega
end Go.Proofs.Ytngdppffcdhhlaa
