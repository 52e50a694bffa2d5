/- More laws of slices that the seat's code owns: a part with its room, append where there is room, clear. No condition. -/
import Derived.Test.YtngdppffcdhhlaaPW
namespace Go.PBYtngdppffcdhhlaa
open Go Go.RowKit
set_option linter.unusedSimpArgs false
set_option linter.unusedVariables false
section
variable {P : Program} {S : List Nat} {w0 w : World} {L : List Res} {Q : Exit → Act → World → Prop} {a : Act} {dst : Option Tmp} {ty : TypeId} {pos : String} {af : Array Edge} {g : Option (Nat × Bool)}

/-- x[l:h:m]; what it tells is not asked -/
theorem opw_slice3 {K : Act → World → Prop} {t e : TypeId} {x lo hi ma : Operand} {size n c l h m : Nat} {A : Option Addr} {k1 k2 k3 : IntKind} (hu : P.underlying t = some (.slice e)) (hi' : (P.info? e).map (·.size) = some size)
    (hx : a.eval x = .slice A n c) (hlo : a.eval lo = .int k1 (l : Int)) (hhi : a.eval hi = .int k2 (h : Int)) (hma : a.eval ma = .int k3 (m : Int)) (hlh : l ≤ h) (hhm : h ≤ m) (hmc : m ≤ c)
    (hk : ∀ B, K (a.put dst (.slice B (h - l) (m - l))) w) :
    Oper.wp P { dst, op := .slice t x (some lo) (some hi) (some ma), type := ty, pos, after := af, guard := g } a w K Q := by
  cases hq : P.info? e with
  | none => simp [hq] at hi'
  | some i =>
    have hs : i.size = size := by simpa [hq] using hi'
    have b1 : ∀ code, (Instr.sliceBound (.int k1 (l : Int)) h code).run P w = .ok l w := fun code => run_sliceBound_nat hlh
    have b2 : ∀ code, (Instr.sliceBound (.int k2 (h : Int)) m code).run P w = .ok h w := fun code => run_sliceBound_nat hhm
    have b3 : ∀ code, (Instr.sliceBound (.int k3 (m : Int)) c code).run P w = .ok m w := fun code => run_sliceBound_nat hmc
    refine opw_val (v := .slice (if m = l then A else A.map (·.add (l * size))) (h - l) (m - l)) (w' := w) ?_ (hk _)
    simp [execOp, Instr.sliceAt, hx, hlo, hhi, hma, Instr.slice, run_underlying hu, Instr.sliceBounds, b1, b2, b3, sizeOf, typeInfo, hq, hs, Result.andThen]

/-- a part of what is owned, where it lies -/
theorem opw_sliceAt {K : Act → World → Prop} {t e : TypeId} {x : Operand} {lo hi : Option Operand} {size n c b : Nat} (l h : Nat) (hu : P.underlying t = some (.slice e)) (hi' : (P.info? e).map (·.size) = some size)
    (hx : a.eval x = .slice (some ⟨b, 0, none⟩) n c) (hlo : (lo = none ∧ l = 0) ∨ ∃ k y, lo = some y ∧ a.eval y = .int k (l : Int)) (hhi : (hi = none ∧ h = n) ∨ ∃ k y, hi = some y ∧ a.eval y = .int k (h : Int)) (hlh : l ≤ h) (hhc : h ≤ c) (o : Nat) (ho : o = if c = l then 0 else l * size)
    (hk : K (a.put dst (.slice (some ⟨b, o, none⟩) (h - l) (c - l))) w) :
    Oper.wp P { dst, op := .slice t x lo hi none, type := ty, pos, after := af, guard := g } a w K Q := by
  cases hq : P.info? e with
  | none => simp [hq] at hi'
  | some i =>
    have hs : i.size = size := by simpa [hq] using hi'
    have hadd : (if c = l then some (⟨b, 0, none⟩ : Addr) else some ((⟨b, 0, none⟩ : Addr).add (l * size))) = some ⟨b, o, none⟩ := by
      subst ho
      split
      · rfl
      · have : (⟨b, 0, none⟩ : Addr).add (l * size) = ⟨b, l * size, none⟩ := by unfold Addr.add; split <;> simp_all
        rw [this]
    refine opw_val (v := .slice (some ⟨b, o, none⟩) (h - l) (c - l)) (w' := w) ?_ hk
    have hl1 : ∀ y k, a.eval y = .int k (l : Int) → ∀ code, (Instr.sliceBound (a.eval y) h code).run P w = .ok l w := fun y k hy code => by rw [hy]; exact run_sliceBound_nat hlh
    have hh1 : ∀ y k, a.eval y = .int k (h : Int) → ∀ code, (Instr.sliceBound (a.eval y) c code).run P w = .ok h w := fun y k hy code => by rw [hy]; exact run_sliceBound_nat hhc
    rw [← hadd]
    rcases hlo with ⟨rfl, rfl⟩ | ⟨k, y, rfl, hy⟩ <;> rcases hhi with ⟨rfl, rfl⟩ | ⟨k', y', rfl, hy'⟩
    · simp [execOp, Instr.sliceAt, Instr.slice, Instr.sliceBounds, run_underlying hu, hx, sizeOf, typeInfo, hq, hs]
    · simp [execOp, Instr.sliceAt, Instr.slice, Instr.sliceBounds, run_underlying hu, hx, sizeOf, typeInfo, hq, hs, hh1 y' k' hy']
    · simp [execOp, Instr.sliceAt, Instr.slice, Instr.sliceBounds, run_underlying hu, hx, sizeOf, typeInfo, hq, hs, hl1 y k hy]
    · simp [execOp, Instr.sliceAt, Instr.slice, Instr.sliceBounds, run_underlying hu, hx, sizeOf, typeInfo, hq, hs, hl1 y k hy, hh1 y' k' hy']

/-- append where there is room: it stays where it is -/
theorem opw_appendIn {K : Act → World → Prop} {t tx e T : TypeId} {s x : Operand} {size n m cx k b cap : Nat} {c news : List Value} {A : Option Addr} (H : St S w0 L w)
    (hk : L[k]? = some (.blk b T c)) (hu : P.underlying t = some (.slice e)) (htx : P.underlying tx = some (.slice e)) (hi : (P.info? e).map (·.size) = some size)
    (hs : a.eval s = .slice (some ⟨b, 0, none⟩) n cap) (hx : a.eval x = .slice A m cx) (hA : SlAt w A news) (hl : news.length = m * size) (h1 : ∀ u ∈ news, u.oneCell' = true)
    (hroom : n + m ≤ cap) (hlen : (n + m) * size ≤ c.length)
    (h : ∀ w', St S w0 (L.set k (.blk b T (splice c (n * size) news))) w' → K (a.put dst (.slice (some ⟨b, 0, none⟩) (n + m) cap)) w') :
    Oper.wp P { dst, op := .call { callee := .builtin .append, args := #[s, x], argTypes := #[t, tx] }, type := ty, pos, after := af, guard := g } a w K Q := by
  cases hq : P.info? e with
  | none => simp [hq] at hi
  | some i =>
    have hsz : i.size = size := by simpa [hq] using hi
    have hcells : (Builtin.firstCells size m (.slice A m cx)).run P w = .ok news.toArray w := by
      cases A with
      | none =>
        have : news = [] := by
          cases news with
          | nil => rfl
          | cons u r => obtain ⟨a', e, _⟩ := hA 0 u rfl; simp at e
        subst this
        rfl
      | some ad =>
        have := run_loadCells_list (P := P) w ad news (fun i u hu => hA.get hu)
        rw [hl] at this
        exact this
    have hst := run_storeCells_blk P (H.blk hk) (n * size) news (by rw [hl, ← Nat.add_mul]; exact hlen) h1
    have hadd : (⟨b, 0, none⟩ : Addr).add (n * size) = ⟨b, n * size, none⟩ := by unfold Addr.add; split <;> simp_all
    have hr : (Builtin.append_ #[t, tx] ty #[.slice (some ⟨b, 0, none⟩) n cap, .slice A m cx]).run P w = .ok (.slice (some ⟨b, 0, none⟩) (n + m) cap) (w.setRow b (splice c (n * size) news).toArray) := by
      simp [Builtin.append_, run_underlying hu, run_underlying htx, sizeOf, typeInfo, hq, hsz, Builtin.lenOf, hroom, hcells, hadd, hst, Result.andThen]
    refine opw_val (v := .slice (some ⟨b, 0, none⟩) (n + m) cap) (w' := w.setRow b (splice c (n * size) news).toArray) (by simp only [BigFrame.execOp_builtin, BigFrame.builtin_append, List.map_toArray, List.map_cons, List.map_nil, hs, hx, Sem.run_bind, hr, Result.andThen_ok, Sem.run_pure]) ?_
    have hlen2 : (splice c (n * size) news).length = c.length := by
      have : (n + m) * size = n * size + m * size := Nat.add_mul _ _ _
      simp [splice]; omega
    exact h _ (H.change hk (grownBy_setRow w b _) (setRow_blk (H.blk hk) hlen2) (fun b' hb' => .inl hb'))

/-- clear of a part of what is owned -/
theorem opw_clear {K : Act → World → Prop} {t e T : TypeId} {x : Operand} {size n cx k b off : Nat} {z : Value} {c : List Value} (H : St S w0 L w)
    (hk : L[k]? = some (.blk b T c)) (hu : P.underlying t = some (.slice e)) (hi : (P.info? e).map (fun i => (i.zero, i.size)) = some (some z, size)) (hzs : z.cells.size = size)
    (hx : a.eval x = .slice (some ⟨b, off, none⟩) n cx) (hn : 0 < n) (hlen : off + n * size ≤ c.length) (h1 : ∀ u ∈ (Builtin.zeroCells z.cells n).toList, u.oneCell' = true)
    (h : ∀ w', St S w0 (L.set k (.blk b T (splice c off (Builtin.zeroCells z.cells n).toList))) w' → K (a.put dst (.tuple #[])) w') :
    Oper.wp P { dst, op := .call { callee := .builtin .clear, args := #[x], argTypes := #[t] }, type := ty, pos, after := af, guard := g } a w K Q := by
  cases hq : P.info? e with
  | none => simp [hq] at hi
  | some i =>
    have hz : i.zero = some z ∧ i.size = size := by simpa [hq] using hi
    have hzl : (Builtin.zeroCells z.cells n).toList.length = n * size := by rw [Array.length_toList, appendZero, hzs]
    have hst := run_storeCells_blk P (H.blk hk) off (Builtin.zeroCells z.cells n).toList (by omega) h1
    have hr : (Builtin.clear_ #[t] ty #[.slice (some ⟨b, off, none⟩) n cx]).run P w = .ok (.tuple #[]) (w.setRow b (splice c off (Builtin.zeroCells z.cells n).toList).toArray) := by
      obtain ⟨n, rfl⟩ : ∃ n', n = n' + 1 := ⟨n - 1, by omega⟩
      simp [Builtin.clear_, run_underlying hu, zeroValue, typeInfo, hq, hz.1, hst, Result.andThen]
    refine opw_val (v := .tuple #[]) (w' := w.setRow b (splice c off (Builtin.zeroCells z.cells n).toList).toArray) (by simp only [BigFrame.execOp_builtin, BigFrame.builtin_clear, List.map_toArray, List.map_cons, List.map_nil, hx, Sem.run_bind, hr, Result.andThen_ok, Sem.run_pure]) ?_
    have hlen2 : (splice c off (Builtin.zeroCells z.cells n).toList).length = c.length := by
      simp only [splice, List.length_append, List.length_take, List.length_drop, hzl]; omega
    exact h _ (H.change hk (grownBy_setRow w b _) (setRow_blk (H.blk hk) hlen2) (fun b' hb' => .inl hb'))

/-- the parts may stand in another order -/
theorem St.perm {M : List Res} (H : St S w0 L w) (h : L.Perm M) : St S w0 M w :=
  ⟨H.kept, fun r hr => H.ok r (h.mem_iff.2 hr), fun r hr => H.new r (h.mem_iff.2 hr), h.pairwise H.apart (fun {r s} hrs b hb hs => hrs b hs hb)⟩
end
end Go.PBYtngdppffcdhhlaa
