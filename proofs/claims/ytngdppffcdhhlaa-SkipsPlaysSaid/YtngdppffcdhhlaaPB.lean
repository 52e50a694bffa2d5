/- Words that all proofs of this seat share: what a call keeps of the memory, and what it owns. No condition. -/
import Derived.WalkKit
import Derived.WalkLawsBesides
import Derived.WalkSpells
namespace Go.PBYtngdppffcdhhlaa
open Go Go.RowKit
set_option linter.unusedSimpArgs false
set_option linter.unusedVariables false

/-! ### what is kept -/

/-- w' is as w was, but for new blocks, and for the blocks of S. -/
structure Kept (S : List Nat) (w w' : World) : Prop where
  os : w'.os = w.os
  tape : w'.tape = w.tape
  output : w'.output = w.output
  size : w.heap.size ≤ w'.heap.size
  block : ∀ k, k < w.heap.size → k ∉ S → w'.heap[k]? = w.heap[k]?

theorem Kept.refl (S : List Nat) (w : World) : Kept S w w := ⟨rfl, rfl, rfl, Nat.le_refl _, fun _ _ _ => rfl⟩
theorem Kept.trans {S : List Nat} {a b c : World} (h : Kept S a b) (k : Kept S b c) : Kept S a c :=
  ⟨k.os.trans h.os, k.tape.trans h.tape, k.output.trans h.output, Nat.le_trans h.size k.size,
   fun i hi hn => (k.block i (Nat.lt_of_lt_of_le hi h.size) hn).trans (h.block i hi hn)⟩
theorem Kept.weaken {S S' : List Nat} {a b : World} (h : Kept S a b) (hs : ∀ k, k ∈ S → k ∈ S') : Kept S' a b :=
  ⟨h.os, h.tape, h.output, h.size, fun i hi hn => h.block i hi (fun hm => hn (hs i hm))⟩
theorem Kept.below {w w' : World} (h : Kept [] w w') : Below w.heap.size w w' :=
  ⟨h.os, h.tape, h.output, h.size, fun k hk => h.block k hk (by simp)⟩
theorem Kept.of_below {w w' : World} (h : Below w.heap.size w w') : Kept [] w w' :=
  ⟨h.os, h.tape, h.output, h.size, fun k hk _ => h.block k hk⟩
theorem Kept.drew {S : List Nat} {a w : World} (h : Kept S a w) : Kept S a w.drew := ⟨h.os, h.tape, h.output, h.size, h.block⟩
theorem Kept.drewN {S : List Nat} {a w : World} (n : Nat) (h : Kept S a w) : Kept S a (w.drewN n) := ⟨h.os, h.tape, h.output, h.size, h.block⟩
theorem Kept.cell {S : List Nat} {w w' : World} (h : Kept S w w') {a : Addr} {v : Value} (hc : w.cell? a = some v) (hn : a.block ∉ S) : w'.cell? a = some v := by
  have hl := World.block_lt_of_cell? w a hc
  rw [World.cell?_of_block (h.block a.block hl hn)]
  exact hc
theorem Kept.grown {w w' : World} {row : Option Nat} (hg : w.grownBy w' row) : Kept row.toList w w' :=
  ⟨hg.os, hg.tape, hg.output, hg.size, fun k hk hn => hg.block k hk (by intro e; subst e; simp at hn)⟩
theorem grownBy_of_kept {w w' : World} (h : Kept [] w w') (row : Option Nat) : w.grownBy w' row :=
  ⟨h.os, h.tape, h.output, h.size, fun k hk _ => h.block k hk (by simp)⟩

/-! ### what is owned -/

/-- A block's mark leaves its n cells writable. -/
def Free (fz : Nat × Nat) (n : Nat) : Prop := fz.1 = fz.2 ∨ n ≤ fz.1

/-- Block b is a row of just these cells, each of which may be written. -/
def Blk (w : World) (b : Nat) (T : TypeId) (c : List Value) : Prop := ∃ fz, w.heap[b]? = some (.cells c.toArray T fz) ∧ Free fz c.length

/-- v is nil and holds nothing, or it is a slice from its block's head on that may grow there: its first n elements are the cells xs. -/
def Row (w : World) (T : TypeId) (size : Nat) (v : Value) (n : Nat) (xs : List Value) : Prop :=
  xs.length = n * size ∧ ((v = .slice none 0 0 ∧ n = 0) ∨
    ∃ b cap more, v = .slice (some ⟨b, 0, none⟩) n cap ∧ n ≤ cap ∧ cap ≤ maxLen ∧ (xs ++ more).length = cap * size ∧ Blk w b T (xs ++ more))

inductive Res where
  | blk (b : Nat) (T : TypeId) (c : List Value)
  | row (T : TypeId) (size : Nat) (v : Value) (n : Nat) (xs : List Value)
  | obj (b : Nat) (o : Obj)

def Res.at : Res → Option Nat
  | .blk b _ _ => some b
  | .row _ _ v _ _ => v.ownBlock
  | .obj b _ => some b

def Res.ok (w : World) : Res → Prop
  | .blk b T c => Blk w b T c
  | .row T size v n xs => Row w T size v n xs
  | .obj b o => w.heap[b]? = some o

theorem Blk.lt {w : World} {b : Nat} {T : TypeId} {c : List Value} (h : Blk w b T c) : b < w.heap.size := by
  obtain ⟨fz, h, _⟩ := h
  exact (Array.getElem?_eq_some_iff.1 h).1
theorem Blk.of_eq {w w' : World} {b : Nat} {T : TypeId} {c : List Value} (h : Blk w b T c) (e : w'.heap[b]? = w.heap[b]?) : Blk w' b T c := by
  obtain ⟨fz, h, f⟩ := h
  exact ⟨fz, e.trans h, f⟩
theorem Row.of_eq {w w' : World} {T : TypeId} {size : Nat} {v : Value} {n : Nat} {xs : List Value} (h : Row w T size v n xs)
    (e : ∀ b, v.ownBlock = some b → w'.heap[b]? = w.heap[b]?) : Row w' T size v n xs := by
  obtain ⟨hl, h⟩ := h
  refine ⟨hl, ?_⟩
  rcases h with h | ⟨b, cap, more, rfl, h1, h2, h3, h4⟩
  · exact .inl h
  · exact .inr ⟨b, cap, more, rfl, h1, h2, h3, h4.of_eq (e b rfl)⟩
theorem Res.lt {w : World} {r : Res} (h : r.ok w) {b : Nat} (hb : r.at = some b) : b < w.heap.size := by
  cases r with
  | blk b' T c => simp only [Res.at, Option.some.injEq] at hb; subst hb; exact Blk.lt h
  | row T size v n xs =>
    obtain ⟨hl, h⟩ := h
    rcases h with ⟨rfl, _⟩ | ⟨b', cap, more, rfl, h1, h2, h3, h4⟩
    · simp [Res.at, Value.ownBlock] at hb
    · simp only [Res.at, Value.ownBlock, Option.some.injEq] at hb; subst hb; exact h4.lt
  | obj b' o => simp only [Res.at, Option.some.injEq] at hb; subst hb; exact (Array.getElem?_eq_some_iff.1 h).1
theorem Res.of_eq {w w' : World} {r : Res} (h : r.ok w) (e : ∀ b, r.at = some b → w'.heap[b]? = w.heap[b]?) : r.ok w' := by
  cases r with
  | blk b T c => exact Blk.of_eq h (e b rfl)
  | row T size v n xs => exact Row.of_eq h e
  | obj b o => exact (e b rfl).trans h

/-- The state of a walk: w came of w0, of which only the blocks of S have changed; each of L is there, apart from the others, and new, or of S. -/
structure St (S : List Nat) (w0 : World) (L : List Res) (w : World) : Prop where
  kept : Kept S w0 w
  ok : ∀ r ∈ L, r.ok w
  new : ∀ r ∈ L, ∀ b, r.at = some b → w0.heap.size ≤ b ∨ b ∈ S
  apart : L.Pairwise (fun r s => ∀ b, r.at = some b → s.at ≠ some b)

section
variable {S : List Nat} {w0 w w' : World} {L : List Res} {r r' : Res} {k : Nat}

theorem St.refl (w : World) : St [] w [] w := ⟨Kept.refl _ _, by simp, by simp, .nil⟩

/-- One of L was written; it may have moved to new memory. -/
theorem St.change (H : St S w0 L w) (hk : L[k]? = some r) (hg : w.grownBy w' r.at) (hr' : r'.ok w') (hat : ∀ b, r'.at = some b → r.at = some b ∨ w.heap.size ≤ b) : St S w0 (L.set k r') w' := by
  have hmem : r ∈ L := List.mem_of_getElem? hk
  have hlt : k < L.length := (List.getElem?_eq_some_iff.1 hk).1
  have hother : ∀ (i : Nat) (s : Res), L[i]? = some s → i ≠ k → ∀ b, s.at = some b → r.at ≠ some b := by
    intro i s hi hne b hb hrb
    have hil : i < L.length := (List.getElem?_eq_some_iff.1 hi).1
    have hp := List.pairwise_iff_getElem.1 H.apart
    have e1 : L[i] = s := (List.getElem?_eq_some_iff.1 hi).2
    have e2 : L[k] = r := (List.getElem?_eq_some_iff.1 hk).2
    rcases Nat.lt_or_gt_of_ne hne with h | h
    · exact hp i k hil hlt h b (by rw [e1]; exact hb) (by rw [e2]; exact hrb)
    · exact hp k i hlt hil h b (by rw [e2]; exact hrb) (by rw [e1]; exact hb)
  have hin : ∀ s ∈ L.set k r', (s = r' ∨ ∃ i, i ≠ k ∧ L[i]? = some s) := by
    intro s hs
    obtain ⟨i, hi⟩ := List.getElem?_of_mem hs
    rw [List.getElem?_set] at hi
    split at hi
    · simp only [Option.some.injEq] at hi; exact .inl hi.symm
    · rename_i hne; exact .inr ⟨i, fun e => hne e.symm, hi⟩
  have hstay : ∀ i s, i ≠ k → L[i]? = some s → s.ok w' := by
    intro i s hne hi
    refine Res.of_eq (H.ok s (List.mem_of_getElem? hi)) ?_
    intro b hb
    refine hg.block b (Res.lt (H.ok s (List.mem_of_getElem? hi)) hb) ?_
    intro e
    exact hother i s hi hne b hb e.symm
  refine ⟨?_, ?_, ?_, ?_⟩
  · refine ⟨hg.os.trans H.kept.os, hg.tape.trans H.kept.tape, hg.output.trans H.kept.output, Nat.le_trans H.kept.size hg.size, ?_⟩
    intro b hb hn
    rw [hg.block b (Nat.lt_of_lt_of_le hb H.kept.size) ?_]
    · exact H.kept.block b hb hn
    · intro e
      rcases H.new r hmem b e.symm with h | h
      · omega
      · exact hn h
  · intro s hs
    rcases hin s hs with rfl | ⟨i, hne, hi⟩
    · exact hr'
    · exact hstay i s hne hi
  · intro s hs b hb
    rcases hin s hs with rfl | ⟨i, hne, hi⟩
    · rcases hat b hb with h | h
      · exact H.new r hmem b h
      · exact .inl (Nat.le_trans H.kept.size h)
    · exact H.new s (List.mem_of_getElem? hi) b hb
  · rw [List.pairwise_iff_getElem]
    intro i j hi hj hij b hb
    have hi' : i < L.length := by simpa using hi
    have hj' : j < L.length := by simpa using hj
    rw [List.getElem_set] at hb
    rw [List.getElem_set]
    by_cases e1 : k = i
    · subst e1
      have e2 : k ≠ j := by omega
      simp only [if_true, if_neg e2] at hb ⊢
      intro hjb
      rcases hat b hb with h | h
      · exact hother j L[j] (by simp [hj']) (fun e => e2 e.symm) b hjb h
      · have := Res.lt (H.ok L[j] (List.getElem_mem hj')) hjb; omega
    · by_cases e2 : k = j
      · subst e2
        simp only [if_true, if_neg e1] at hb ⊢
        intro hjb
        rcases hat b hjb with h | h
        · exact hother i L[i] (by simp [hi']) (fun e => e1 e.symm) b hb h
        · have := Res.lt (H.ok L[i] (List.getElem_mem hi')) hb; omega
      · simp only [if_neg e1, if_neg e2] at hb ⊢
        exact List.pairwise_iff_getElem.1 H.apart i j hi' hj' hij b hb

theorem St.keep (H : St S w0 L w) (hK : Kept [] w w') : St S w0 L w' := by
  refine ⟨?_, ?_, H.new, H.apart⟩
  · exact H.kept.trans (hK.weaken (by simp))
  · intro s hs
    exact Res.of_eq (H.ok s hs) (fun b hb => hK.block b (Res.lt (H.ok s hs) hb) (by simp))

/-- More that is new is owned, too. -/
theorem St.join {N : List Res} (H : St S w0 L w) (hN : St [] w N w') : St S w0 (L ++ N) w' := by
  have H1 := H.keep hN.kept
  refine ⟨H1.kept, ?_, ?_, ?_⟩
  · intro s hs
    rcases List.mem_append.1 hs with h | h
    · exact H1.ok s h
    · exact hN.ok s h
  · intro s hs b hb
    rcases List.mem_append.1 hs with h | h
    · exact H1.new s h b hb
    · rcases hN.new s h b hb with h' | h'
      · exact .inl (Nat.le_trans H.kept.size h')
      · simp at h'
  · refine List.pairwise_append.2 ⟨H1.apart, hN.apart, ?_⟩
    intro s hs t ht b hb htb
    have h1 := Res.lt (H.ok s hs) hb
    rcases hN.new t ht b htb with h' | h'
    · omega
    · simp at h'

theorem St.add (H : St S w0 L w) (hg : w.grownBy w' none) (hr : r.ok w') (hat : ∀ b, r.at = some b → w.heap.size ≤ b) : St S w0 (L ++ [r]) w' := by
  refine H.join ⟨?_, by simpa using hr, ?_, by simp⟩
  · exact ⟨hg.os, hg.tape, hg.output, hg.size, fun k hk _ => hg.block k hk (by simp)⟩
  · intro s hs b hb
    simp only [List.mem_singleton] at hs
    subst hs
    exact .inl (hat b hb)

theorem St.addNil (H : St S w0 L w) (T : TypeId) (size : Nat) : St S w0 (L ++ [.row T size (.slice none 0 0) 0 []]) w :=
  H.add ⟨rfl, rfl, rfl, Nat.le_refl _, fun _ _ _ => rfl⟩ ⟨by simp, .inl ⟨rfl, rfl⟩⟩ (by simp [Res.at, Value.ownBlock])

/-- Some are forgotten. -/
theorem St.sub {M : List Res} (H : St S w0 L w) (h : M.Sublist L) : St S w0 M w :=
  ⟨H.kept, fun r hr => H.ok r (h.subset hr), fun r hr => H.new r (h.subset hr), H.apart.sublist h⟩
theorem St.drop (H : St S w0 L w) : St S w0 [] w := H.sub (List.nil_sublist _)

/-- One is looked at as another. -/
theorem St.as (H : St S w0 L w) (hk : L[k]? = some r) (hr' : r'.ok w) (hat : r'.at = r.at) : St S w0 (L.set k r') w :=
  H.change hk ⟨rfl, rfl, rfl, Nat.le_refl _, fun _ _ _ => rfl⟩ hr' (fun _ hb => .inl (hat ▸ hb))

theorem St.get (H : St S w0 L w) (hk : L[k]? = some r) : r.ok w := H.ok r (List.mem_of_getElem? hk)
theorem St.blk {b : Nat} {T : TypeId} {c : List Value} (H : St S w0 L w) (hk : L[k]? = some (.blk b T c)) : Blk w b T c := H.get hk
theorem St.cell {b : Nat} {T : TypeId} {c : List Value} (H : St S w0 L w) (hk : L[k]? = some (.blk b T c)) (i : Nat) : w.cell? ⟨b, i, none⟩ = c[i]? := by
  obtain ⟨fz, h, _⟩ := H.blk hk
  simp [World.cell?, h]
theorem St.old (H : St S w0 L w) {a : Addr} {v : Value} (hc : w0.cell? a = some v) (hn : a.block ∉ S) : w.cell? a = some v := H.kept.cell hc hn
theorem St.drew (H : St S w0 L w) : St S w0 L w.drew := H.keep (Kept.refl _ _).drew
theorem St.drewN (H : St S w0 L w) (n : Nat) : St S w0 L (w.drewN n) := H.keep ((Kept.refl _ _).drewN n)

/-- A row of a fixed length. -/
theorem Row.of_blk {w : World} {b : Nat} {T : TypeId} {c : List Value} {n size : Nat} (h : Blk w b T c) (hn : c.length = n * size) (hm : n ≤ maxLen) : Row w T size (.slice (some ⟨b, 0, none⟩) n n) n c :=
  ⟨hn, .inr ⟨b, n, [], rfl, Nat.le_refl _, hm, by simpa using hn, by simpa using h⟩⟩
theorem St.toRow {b : Nat} {T : TypeId} {c : List Value} {n size : Nat} (H : St S w0 L w) (hk : L[k]? = some (.blk b T c)) (hn : c.length = n * size) (hm : n ≤ maxLen) :
    St S w0 (L.set k (.row T size (.slice (some ⟨b, 0, none⟩) n n) n c)) w :=
  H.as hk (Row.of_blk (H.blk hk) hn hm) rfl
end

/-- One block of n elements of one cell, as a row that may grow. -/
theorem St.row1 {S : List Nat} {w0 w : World} {b n : Nat} {T : TypeId} {c : List Value} (H : St S w0 [.blk b T c] w) (hn : c.length = n) (hm : n ≤ maxLen) : St S w0 [.row T 1 (.slice (some ⟨b, 0, none⟩) n n) n c] w :=
  H.toRow (k := 0) (size := 1) rfl (by omega) hm

theorem set_last {α : Type} (L : List α) (r r' : α) : (L ++ [r]).set L.length r' = L ++ [r'] := by simp
theorem get_last {α : Type} (L : List α) (r : α) : (L ++ [r])[L.length]? = some r := by simp

/-! ### what is read -/

/-- The cells vs lie where the address leads. -/
def SlAt (w : World) (A : Option Addr) (vs : List Value) : Prop := ∀ j v, vs[j]? = some v → ∃ a, A = some a ∧ w.cell? (a.add j) = some v

theorem SlAt.nil (w : World) (A : Option Addr) : SlAt w A [] := by intro j v h; simp at h
theorem SlAt.get {w : World} {a : Addr} {vs : List Value} (h : SlAt w (some a) vs) {j : Nat} {v : Value} (hj : vs[j]? = some v) : w.cell? (a.add j) = some v := by
  obtain ⟨a', e, hc⟩ := h j v hj
  cases e
  exact hc
theorem Addr.add_block (a : Addr) (n : Nat) : (a.add n).block = a.block := by unfold Addr.add; split <;> rfl
theorem Addr.add_add' (a : Addr) (m n : Nat) (h : n ≠ 0 ∨ m = 0 ∨ True) : (a.add m).add n = a.add (m + n) := by
  unfold Addr.add
  by_cases hm : m = 0
  · subst hm; simp
  · by_cases hn : n = 0
    · subst hn; simp [hm]
    · have : m + n ≠ 0 := by omega
      simp [hm, hn, Nat.add_assoc]
theorem SlAt.kept {S : List Nat} {w w' : World} {A : Option Addr} {vs : List Value} (h : SlAt w A vs) (hK : Kept S w w') (hn : ∀ a, A = some a → a.block ∉ S) : SlAt w' A vs := by
  intro j v hj
  obtain ⟨a, e, hc⟩ := h j v hj
  exact ⟨a, e, hK.cell hc (by rw [Addr.add_block]; exact hn a e)⟩
theorem SlAt.keep {w w' : World} {A : Option Addr} {vs : List Value} (h : SlAt w A vs) (hK : Kept [] w w') : SlAt w' A vs := h.kept hK (by simp)
theorem St.sl {S : List Nat} {w0 w : World} {L : List Res} (H : St S w0 L w) {A : Option Addr} {vs : List Value} (h : SlAt w0 A vs) (hn : ∀ a, A = some a → a.block ∉ S) : SlAt w A vs := h.kept H.kept hn
theorem St.sl0 {w0 w : World} {L : List Res} (H : St [] w0 L w) {A : Option Addr} {vs : List Value} (h : SlAt w0 A vs) : SlAt w A vs := h.keep H.kept
theorem SlAt.take {w : World} {A : Option Addr} {vs : List Value} (h : SlAt w A vs) (n : Nat) : SlAt w A (vs.take n) := by
  intro j v hj
  rw [List.getElem?_take] at hj
  split at hj
  · exact h j v hj
  · simp at hj
theorem SlAt.left {w : World} {A : Option Addr} {vs ws : List Value} (h : SlAt w A (vs ++ ws)) : SlAt w A vs := by
  have := h.take vs.length
  simpa using this
/-- What a slice expression's address leads to. -/
theorem SlAt.drop {w : World} {a : Addr} {vs : List Value} (h : SlAt w (some a) vs) (n : Nat) : SlAt w (some (a.add n)) (vs.drop n) := by
  intro j v hj
  rw [List.getElem?_drop] at hj
  refine ⟨_, rfl, ?_⟩
  rw [Addr.add_add' _ _ _ (.inr (.inr trivial))]
  exact h.get hj
theorem SlAt.dropIf {w : World} {A : Option Addr} {vs : List Value} {c n m : Nat} (h : SlAt w A vs) (hc : c = n → vs.length ≤ m) : SlAt w (if c = n then A else A.map (·.add m)) (vs.drop m) := by
  split
  · rename_i e
    intro j v hj
    have := hc e
    rw [List.drop_eq_nil_of_le this] at hj
    simp at hj
  · cases A with
    | none =>
      intro j v hj
      rw [List.getElem?_drop] at hj
      obtain ⟨a, e, _⟩ := h _ _ hj
      simp at e
    | some a => exact h.drop m
theorem Blk.sl {w : World} {b : Nat} {T : TypeId} {c : List Value} (h : Blk w b T c) (o : Nat) : SlAt w (some ⟨b, o, none⟩) (c.drop o) := by
  intro j v hj
  obtain ⟨fz, h, _⟩ := h
  refine ⟨_, rfl, ?_⟩
  rw [List.getElem?_drop] at hj
  simp only [Addr.add_lit, World.cell?, h]
  simpa using hj
theorem Blk.sl0 {w : World} {b : Nat} {T : TypeId} {c : List Value} (h : Blk w b T c) : SlAt w (some ⟨b, 0, none⟩) c := by simpa using h.sl 0
theorem Row.sl {w : World} {T : TypeId} {size : Nat} {A : Option Addr} {n m cap : Nat} {xs : List Value} (h : Row w T size (.slice A m cap) n xs) : SlAt w A xs := by
  obtain ⟨hl, h⟩ := h
  rcases h with ⟨e, rfl⟩ | ⟨b, cap', more, e, h1, h2, h3, h4⟩
  · have : xs = [] := List.eq_nil_of_length_eq_zero (by simpa using hl)
    subst this
    exact SlAt.nil _ _
  · cases e
    exact h4.sl0.left
theorem Row.slice {w : World} {T : TypeId} {size : Nat} {v : Value} {n : Nat} {xs : List Value} (h : Row w T size v n xs) : ∃ A cap, v = .slice A n cap ∧ n ≤ cap ∧ cap ≤ maxLen ∧ SlAt w A xs := by
  have h' := h
  obtain ⟨hl, h⟩ := h
  rcases h with ⟨rfl, rfl⟩ | ⟨b, cap', more, rfl, h1, h2, h3, h4⟩
  · exact ⟨none, 0, rfl, Nat.le_refl _, by simp [maxLen], h'.sl⟩
  · exact ⟨_, cap', rfl, h1, h2, h'.sl⟩

end Go.PBYtngdppffcdhhlaa
