/- What the operations of the walk do to what is owned: one law an operation. No condition. -/
import Derived.Test.YtngdppffcdhhlaaPB
import Derived.Laws.CopyOwn
namespace Go.PBYtngdppffcdhhlaa
open Go Go.RowKit
set_option linter.unusedSimpArgs false
set_option linter.unusedVariables false

/-! ### storing cells -/

theorem setRow_blk {w : World} {b : Nat} {T : TypeId} {c c' : List Value} (h : Blk w b T c) (hl : c'.length = c.length) : Blk (w.setRow b c'.toArray) b T c' := by
  obtain ⟨fz, h, f⟩ := h
  exact ⟨fz, setRow_heap w b _ _ T fz h, by rwa [hl]⟩
theorem grownBy_setRow (w : World) (b : Nat) (c : Array Value) : w.grownBy (w.setRow b c) (some b) :=
  ⟨rfl, rfl, rfl, by simp, fun k _ hk => setRow_other w b k _ (fun e => hk (by simp [e]))⟩

theorem run_storeCells_free (P : Program) (g o : Nat) (t : TypeId) : ∀ (vs : List Value) (i : Nat) (cur : Array Value) (fz : Nat × Nat) (w : World), w.heap[g]? = some (.cells cur t fz) → Free fz cur.size → o + i + vs.length ≤ cur.size → (∀ v ∈ vs, v.oneCell' = true) →
    (storeCells ⟨g, o, none⟩ vs i).run P w = .ok () (w.setRow g (cur.toList.take (o + i) ++ vs ++ cur.toList.drop (o + i + vs.length)).toArray)
  | [], i, cur, fz, w, hg, _, _, _ => by
    simp only [storeCells, List.append_nil, List.length_nil, Nat.add_zero, List.take_append_drop, Array.toArray_toList]
    rw [setRow_self w g cur t fz hg]
    rfl
  | v :: rest, i, cur, fz, w, hg, hf, hl, h1 => by
    have hi : o + i < cur.size := by simp at hl; omega
    have hadd : (⟨g, o, none⟩ : Addr).add i = ⟨g, o + i, none⟩ := by unfold Addr.add; split <;> simp_all
    have hcell : w.cell? ⟨g, o + i, none⟩ = some cur[o + i] := by simp [World.cell?, hg, hi]
    have hfro : w.frozen? ⟨g, o + i, none⟩ = false := by
      simp only [World.frozen?, hg]
      rcases hf with h | h
      · simp; omega
      · simp; omega
    have hst : (store ((⟨g, o, none⟩ : Addr).add i) v).run P w = .ok () (w.setRow g (cur.setIfInBounds (o + i) v)) := by
      rw [hadd, run_store P w _ v _ (h1 v (by simp)), hcell]
      simp [hfro, setCell_eq_setRow w g (o + i) cur t fz v hg]
    have ih := run_storeCells_free P g o t rest (i + 1) (cur.setIfInBounds (o + i) v) fz (w.setRow g (cur.setIfInBounds (o + i) v)) (setRow_heap w g cur _ t _ hg) (by simpa using hf) (by simp at hl ⊢; omega) (fun x hx => h1 x (by simp [hx]))
    simp only [storeCells, Sem.run_bind, hst, Result.andThen_ok, ih, setRow_setRow]
    congr 3
    have e := list_seg_step cur.toList (o + i) v rest (by simp at hl ⊢; omega)
    simpa [Array.toList_setIfInBounds, Nat.add_assoc] using e

theorem run_storeCells_blk (P : Program) {w : World} {b : Nat} {T : TypeId} {c : List Value} (h : Blk w b T c) (o : Nat) (vs : List Value) (hl : o + vs.length ≤ c.length) (h1 : ∀ v ∈ vs, v.oneCell' = true) :
    (storeCells ⟨b, o, none⟩ vs).run P w = .ok () (w.setRow b (splice c o vs).toArray) := by
  obtain ⟨fz, h, f⟩ := h
  have := run_storeCells_free P b o T vs 0 c.toArray fz w h (by simpa using f) (by simpa using hl) h1
  simpa [splice] using this

/-! ### append -/

theorem appendZero (z : Array Value) (n : Nat) : (Builtin.zeroCells z n).size = n * z.size := by simp [Builtin.zeroCells]

theorem nextcap_le (n c : Nat) (h : c < n) : Builtin.nextslicecap n c ≤ 2 * n + 1024 := by
  unfold Builtin.nextslicecap
  split
  · omega
  · split
    · omega
    · have key : ∀ (k c : Nat), Builtin.growBy n k c ≤ max c (2 * n + 1024) := by
        intro k
        induction k with
        | zero => intro c; simp [Builtin.growBy]; omega
        | succ k ih =>
          intro c
          simp only [Builtin.growBy]
          split
          · omega
          · rename_i hc
            refine Nat.le_trans (ih _) ?_
            omega
      have := key 4 c
      omega

set_option maxHeartbeats 1000000 in
theorem run_append_row {P : Program} (w : World) (t tx ty e : TypeId) (i : TypeInfo) (z : Value) (size bytes : Nat) (ht : P.underlying t = some (.slice e)) (dx : TypeDesc) (htx : P.underlying tx = some dx) (hdx : dx = .slice e ∨ dx = .string)
    (hi : P.info? e = some i) (hz : i.zero = some z) (hsize : i.size = size) (hby : i.bytes = bytes) (hzs : z.cells.size = size)
    (v : Value) (n : Nat) (xs : List Value) (hrow : Row w e size v n xs) (x : Value) (m : Nat) (news : List Value) (hl : news.length = m * size)
    (hlen : ∀ w', (Builtin.lenOf x).run P w' = .ok m w') (hcells : ∀ k, (Builtin.firstCells size m x).run P (w.drewN k) = .ok news.toArray (w.drewN k)) (h1 : ∀ u ∈ news, u.oneCell' = true)
    (hbytes : (n + m) * bytes ≤ 70368744177664) (hmax : n + m ≤ 70368744177664) (hb1 : bytes ≤ 1099511627776) :
    ∃ v' w', (Builtin.append_ #[t, tx] ty #[v, x]).run P w = .ok v' w' ∧ Row w' e size v' (n + m) (xs ++ news) ∧ w.grownBy w' v.ownBlock ∧ (v'.ownBlock = v.ownBlock ∨ v'.ownBlock = some w.heap.size) := by
  subst hsize
  subst hby
  have hml : n + m ≤ maxLen := by simp only [maxLen]; omega
  have hlen' : (xs ++ news).length = (n + m) * i.size := by rw [List.length_append, hrow.1, hl, Nat.add_mul]
  have hc0 : (Builtin.firstCells i.size m x).run P w = .ok news.toArray w := hcells 0
  have hc1 : (Builtin.firstCells i.size m x).run P w.drew = .ok news.toArray w.drew := hcells 1
  have grown : ∀ (old : Nat), old < n + m → ∀ (row : Option Nat), Row (w.drew.alloc (.cells (xs.toArray ++ news.toArray ++ Builtin.zeroCells z.cells (grownCap w (n + m) old e - (n + m))) e)) e i.size
        (.slice (some ⟨w.heap.size, 0, none⟩) (n + m) (grownCap w (n + m) old e)) (n + m) (xs ++ news) ∧
      w.grownBy (w.drew.alloc (.cells (xs.toArray ++ news.toArray ++ Builtin.zeroCells z.cells (grownCap w (n + m) old e - (n + m))) e)) row := by
    intro old ho row
    have hge := grownCap_ge w (n + m) old e
    have hcm : grownCap w (n + m) old e ≤ maxLen := grownCap_le_maxLen w (n + m) old e hml
    refine ⟨⟨hlen', .inr ⟨w.heap.size, _, (Builtin.zeroCells z.cells (grownCap w (n + m) old e - (n + m))).toList, rfl, hge, hcm, ?_, ⟨(0, 0), ?_, ?_⟩⟩⟩, ⟨rfl, rfl, rfl, by simp, fun k hk _ => Below.heap_alloc w.drew _ k hk⟩⟩
    · rw [List.length_append, hlen', Array.length_toList, appendZero, hzs, ← Nat.add_mul]
      congr 1
      omega
    · have := heap_alloc_new w.drew (.cells (xs.toArray ++ news.toArray ++ Builtin.zeroCells z.cells (grownCap w (n + m) old e - (n + m))) e)
      rw [show w.drew.heap.size = w.heap.size from rfl] at this
      rw [this]
      congr 2
      apply Array.ext'
      simp
    · exact .inl rfl
  have hnext : ∀ c, c < n + m → ¬ (281474976710656 < Builtin.nextslicecap (n + m) c * i.bytes) := by
    intro c hc h
    have h2 := nextcap_le (n + m) c hc
    have h3 : Builtin.nextslicecap (n + m) c * i.bytes ≤ (2 * (n + m) + 1024) * i.bytes := Nat.mul_le_mul_right _ h2
    have h4 : (2 * (n + m) + 1024) * i.bytes = 2 * ((n + m) * i.bytes) + 1024 * i.bytes := by rw [Nat.add_mul, Nat.mul_assoc]
    have h5 : 1024 * i.bytes ≤ 1024 * 1099511627776 * 1 := by omega
    by_cases hb : i.bytes ≤ 68719476736
    · omega
    · have h6 : (n + m) * 68719476736 ≤ (n + m) * i.bytes := Nat.mul_le_mul_left _ (by omega)
      have h7 : n + m ≤ 1024 := by omega
      have hlt : Builtin.nextslicecap (n + m) c ≤ 2 * (n + m) := by
        unfold Builtin.nextslicecap
        split
        · omega
        · split
          · omega
          · have key : ∀ (k c : Nat), c ≤ 2 * (n + m) → 256 ≤ c → Builtin.growBy (n + m) k c ≤ 2 * (n + m) := by
              intro k
              induction k with
              | zero => intro c hc _; simpa [Builtin.growBy] using hc
              | succ k ih =>
                intro c hc h256
                simp only [Builtin.growBy]
                split
                · omega
                · rename_i hcc
                  exact ih _ (by omega) (by omega)
            exact key 4 c (by omega) (by omega)
      have h8 : Builtin.nextslicecap (n + m) c * i.bytes ≤ 2 * (n + m) * i.bytes := Nat.mul_le_mul_right _ hlt
      have h9 : 2 * (n + m) * i.bytes = 2 * ((n + m) * i.bytes) := by rw [Nat.mul_assoc]
      omega
  have hnotint : ((n : Int) + (m : Int) > 9223372036854775807) = False := by
    apply propext
    constructor
    · intro h; omega
    · intro h; exact h.elim
  rcases hrow.2 with ⟨rfl, rfl⟩ | ⟨g, cap, more, rfl, hnc, hcm, hcs, hblk⟩
  · have hx : xs = [] := List.eq_nil_of_length_eq_zero (by simpa using hrow.1)
    subst hx
    by_cases hm : m = 0
    · subst hm
      have hn : news = [] := List.eq_nil_of_length_eq_zero (by simpa using hl)
      subst hn
      refine ⟨.slice none 0 0, w, ?_, ⟨by simp, .inl ⟨rfl, rfl⟩⟩, ⟨rfl, rfl, rfl, Nat.le_refl _, fun _ _ _ => rfl⟩, .inl rfl⟩
      rcases hdx with rfl | rfl <;> simp [Builtin.append_, run_underlying ht, run_underlying htx, sizeOf, typeInfo, hi, hlen, hc0]
    · have hgr := grown 0 (by omega) (Value.ownBlock (.slice none 0 0))
      simp only [Nat.zero_add, List.nil_append, Array.empty_append] at hgr ⊢
      refine ⟨_, _, ?_, hgr.1, hgr.2, .inr rfl⟩
      have hn0 := hnext 0 (by omega)
      simp only [Nat.zero_add] at hn0
      have h63' : ¬ (9223372036854775807 < (m : Int)) := by omega
      have hold : (Builtin.firstCells i.size 0 (.slice none 0 0)).run P w.drew = .ok #[] w.drew := rfl
      rcases hdx with rfl | rfl <;> simp [Builtin.append_, run_underlying ht, run_underlying htx, sizeOf, typeInfo, zeroValue, hi, hz, hlen, hm, h63', hn0, Question.forced, hold, hc1, newRow, grownCap]
  · by_cases hroom : n + m ≤ cap
    · have hfit : n * i.size + news.length ≤ (xs ++ more).length := by rw [hcs, hl, ← Nat.add_mul]; exact Nat.mul_le_mul_right _ hroom
      have hst := run_storeCells_blk P hblk (n * i.size) news hfit h1
      have hsp : splice (xs ++ more) (n * i.size) news = (xs ++ news) ++ (more.drop news.length) := by
        unfold splice
        rw [← hrow.1]
        simp [List.drop_append]
      refine ⟨.slice (some ⟨g, 0, none⟩) (n + m) cap, _, ?_, ⟨hlen', .inr ⟨g, cap, more.drop news.length, rfl, hroom, hcm, ?_, ?_⟩⟩, grownBy_setRow w g (splice (xs ++ more) (n * i.size) news).toArray, .inl rfl⟩
      · rcases hdx with rfl | rfl <;> simp [Builtin.append_, run_underlying ht, run_underlying htx, sizeOf, typeInfo, hi, hlen, hroom, hc0, Addr.add_lit, hst]
      · have e1 := hrow.1
        rw [List.length_append] at hcs hfit ⊢
        rw [List.length_append, List.length_drop]
        omega
      · rw [hsp]
        refine setRow_blk hblk ?_
        rw [List.length_append] at hfit ⊢
        rw [List.length_append, List.length_append, List.length_drop]
        have e1 := hrow.1
        omega
    · have hgr := grown cap (by omega) (some g)
      refine ⟨_, _, ?_, hgr.1, hgr.2, .inr rfl⟩
      have h63' : ¬ (9223372036854775807 < ((n : Int) + (m : Int))) := by omega
      have hn0 := hnext cap (by omega)
      have hold : (Builtin.firstCells i.size n (.slice (some ⟨g, 0, none⟩) n cap)).run P w.drew = .ok xs.toArray w.drew := by
        have hs : SlAt w.drew (some ⟨g, 0, none⟩) xs := (Blk.of_eq hblk rfl).sl0.left
        have := run_loadCells_list (P := P) w.drew ⟨g, 0, none⟩ xs (fun j v hv => hs.get hv)
        rw [hrow.1] at this
        exact this
      rcases hdx with rfl | rfl <;> (simp [Builtin.append_, run_underlying ht, run_underlying htx, sizeOf, typeInfo, zeroValue, hi, hz, hlen, hroom, h63', hn0, Question.forced, hold, hc1, newRow, grownCap]; congr 2; apply Array.ext'; simp)

end Go.PBYtngdppffcdhhlaa
