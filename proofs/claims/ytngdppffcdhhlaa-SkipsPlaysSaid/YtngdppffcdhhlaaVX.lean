/- More laws of single operations: append where the block has another type, append of texts, append to new memory, function values that hold variables. No condition. -/
import Derived.Test.YtngdppffcdhhlaaVO
import Derived.Lib.ConvBytes
import Derived.Scope
namespace Go.PBYtngdppffcdhhlaa
open Go Go.RowKit
set_option linter.unusedSimpArgs false
set_option linter.unusedVariables false

theorem run_append_rowT {P : Program} (w : World) (t tx ty e : TypeId) (i : TypeInfo) (z : Value) (size bytes : Nat) (ht : P.underlying t = some (.slice e)) (dx : TypeDesc) (htx : P.underlying tx = some dx) (hdx : dx = .slice e ∨ dx = .string)
    (hi : P.info? e = some i) (hz : i.zero = some z) (hsize : i.size = size) (hby : i.bytes = bytes) (hzs : z.cells.size = size)
    (v : Value) (n : Nat) (xs : List Value) {T : TypeId} (hrow : Row w T size v n xs) (x : Value) (m : Nat) (news : List Value) (hl : news.length = m * size)
    (hlen : ∀ w', (Builtin.lenOf x).run P w' = .ok m w') (hcells : ∀ k, (Builtin.firstCells size m x).run P (w.drewN k) = .ok news.toArray (w.drewN k)) (h1 : ∀ u ∈ news, u.oneCell' = true)
    (hbytes : (n + m) * bytes ≤ 70368744177664) (hmax : n + m ≤ 70368744177664) (hb1 : bytes ≤ 1099511627776) :
    ∃ v' w' T', (Builtin.append_ #[t, tx] ty #[v, x]).run P w = .ok v' w' ∧ Row w' T' size v' (n + m) (xs ++ news) ∧ w.grownBy w' v.ownBlock ∧ ((v'.ownBlock = v.ownBlock ∧ T' = T ∧ (m = 0 ∨ ∃ A l c, v = .slice A l c ∧ n + m ≤ c)) ∨ (v'.ownBlock = some w.heap.size ∧ T' = e ∧ w.grownBy w' none)) := by
  subst hsize
  subst hby
  have hml : n + m ≤ maxLen := by simp only [maxLen]; omega
  have hlen' : (xs ++ news).length = (n + m) * i.size := by rw [List.length_append, hrow.1, hl, Nat.add_mul]
  have hc0 : (Builtin.firstCells i.size m x).run P w = .ok news.toArray w := hcells 0
  have hc1 : (Builtin.firstCells i.size m x).run P w.drew = .ok news.toArray w.drew := hcells 1
  have grown : ∀ (old : Nat), old < n + m → ∀ (row : Option Nat), Row (w.drew.alloc (.cells (xs.toArray ++ news.toArray ++ Builtin.zeroCells z.cells (grownCap w (n + m) old e - (n + m))) e)) e i.size
        (.slice (some ⟨w.heap.size, 0, none⟩) (n + m) (grownCap w (n + m) old e)) (n + m) (xs ++ news) ∧
      w.grownBy (w.drew.alloc (.cells (xs.toArray ++ news.toArray ++ Builtin.zeroCells z.cells (grownCap w (n + m) old e - (n + m))) e)) row := by
    intro old ho row
    have hge := grownCap_ge w (n + m) old e
    have hcm : grownCap w (n + m) old e ≤ maxLen := grownCap_le_maxLen w (n + m) old e hml
    refine ⟨⟨hlen', .inr ⟨w.heap.size, _, (Builtin.zeroCells z.cells (grownCap w (n + m) old e - (n + m))).toList, rfl, hge, hcm, ?_, ⟨(0, 0), ?_, ?_⟩⟩⟩, ⟨rfl, rfl, rfl, by simp, fun k hk _ => Below.heap_alloc w.drew _ k hk⟩⟩
    · rw [List.length_append, hlen', Array.length_toList, appendZero, hzs, ← Nat.add_mul]
      congr 1
      omega
    · have := heap_alloc_new w.drew (.cells (xs.toArray ++ news.toArray ++ Builtin.zeroCells z.cells (grownCap w (n + m) old e - (n + m))) e)
      rw [show w.drew.heap.size = w.heap.size from rfl] at this
      rw [this]
      congr 2
      apply Array.ext'
      simp
    · exact .inl rfl
  have hnext : ∀ c, c < n + m → ¬ (281474976710656 < Builtin.nextslicecap (n + m) c * i.bytes) := by
    intro c hc h
    have h2 := nextcap_le (n + m) c hc
    have h3 : Builtin.nextslicecap (n + m) c * i.bytes ≤ (2 * (n + m) + 1024) * i.bytes := Nat.mul_le_mul_right _ h2
    have h4 : (2 * (n + m) + 1024) * i.bytes = 2 * ((n + m) * i.bytes) + 1024 * i.bytes := by rw [Nat.add_mul, Nat.mul_assoc]
    have h5 : 1024 * i.bytes ≤ 1024 * 1099511627776 * 1 := by omega
    by_cases hb : i.bytes ≤ 68719476736
    · omega
    · have h6 : (n + m) * 68719476736 ≤ (n + m) * i.bytes := Nat.mul_le_mul_left _ (by omega)
      have h7 : n + m ≤ 1024 := by omega
      have hlt : Builtin.nextslicecap (n + m) c ≤ 2 * (n + m) := by
        unfold Builtin.nextslicecap
        split
        · omega
        · split
          · omega
          · have key : ∀ (k c : Nat), c ≤ 2 * (n + m) → 256 ≤ c → Builtin.growBy (n + m) k c ≤ 2 * (n + m) := by
              intro k
              induction k with
              | zero => intro c hc _; simpa [Builtin.growBy] using hc
              | succ k ih =>
                intro c hc h256
                simp only [Builtin.growBy]
                split
                · omega
                · rename_i hcc
                  exact ih _ (by omega) (by omega)
            exact key 4 c (by omega) (by omega)
      have h8 : Builtin.nextslicecap (n + m) c * i.bytes ≤ 2 * (n + m) * i.bytes := Nat.mul_le_mul_right _ hlt
      have h9 : 2 * (n + m) * i.bytes = 2 * ((n + m) * i.bytes) := by rw [Nat.mul_assoc]
      omega
  have hnotint : ((n : Int) + (m : Int) > 9223372036854775807) = False := by
    apply propext
    constructor
    · intro h; omega
    · intro h; exact h.elim
  rcases hrow.2 with ⟨rfl, rfl⟩ | ⟨g, cap, more, rfl, hnc, hcm, hcs, hblk⟩
  · have hx : xs = [] := List.eq_nil_of_length_eq_zero (by simpa using hrow.1)
    subst hx
    by_cases hm : m = 0
    · subst hm
      have hn : news = [] := List.eq_nil_of_length_eq_zero (by simpa using hl)
      subst hn
      refine ⟨.slice none 0 0, w, T, ?_, ⟨by simp, .inl ⟨rfl, rfl⟩⟩, ⟨rfl, rfl, rfl, Nat.le_refl _, fun _ _ _ => rfl⟩, .inl ⟨rfl, rfl, .inl rfl⟩⟩
      rcases hdx with rfl | rfl <;> simp [Builtin.append_, run_underlying ht, run_underlying htx, sizeOf, typeInfo, hi, hlen, hc0]
    · have hgr := grown 0 (by omega) (Value.ownBlock (.slice none 0 0))
      simp only [Nat.zero_add, List.nil_append, Array.empty_append] at hgr ⊢
      refine ⟨_, _, _, ?_, hgr.1, hgr.2, .inr ⟨rfl, rfl, by simpa using (grown 0 (by omega) none).2⟩⟩
      have hn0 := hnext 0 (by omega)
      simp only [Nat.zero_add] at hn0
      have h63' : ¬ (9223372036854775807 < (m : Int)) := by omega
      have hold : (Builtin.firstCells i.size 0 (.slice none 0 0)).run P w.drew = .ok #[] w.drew := rfl
      rcases hdx with rfl | rfl <;> simp [Builtin.append_, run_underlying ht, run_underlying htx, sizeOf, typeInfo, zeroValue, hi, hz, hlen, hm, h63', hn0, Question.forced, hold, hc1, newRow, grownCap]
  · by_cases hroom : n + m ≤ cap
    · have hfit : n * i.size + news.length ≤ (xs ++ more).length := by rw [hcs, hl, ← Nat.add_mul]; exact Nat.mul_le_mul_right _ hroom
      have hst := run_storeCells_blk P hblk (n * i.size) news hfit h1
      have hsp : splice (xs ++ more) (n * i.size) news = (xs ++ news) ++ (more.drop news.length) := by
        unfold splice
        rw [← hrow.1]
        simp [List.drop_append]
      refine ⟨.slice (some ⟨g, 0, none⟩) (n + m) cap, _, T, ?_, ⟨hlen', .inr ⟨g, cap, more.drop news.length, rfl, hroom, hcm, ?_, ?_⟩⟩, grownBy_setRow w g (splice (xs ++ more) (n * i.size) news).toArray, .inl ⟨rfl, rfl, .inr ⟨_, _, _, rfl, hroom⟩⟩⟩
      · rcases hdx with rfl | rfl <;> simp [Builtin.append_, run_underlying ht, run_underlying htx, sizeOf, typeInfo, hi, hlen, hroom, hc0, Addr.add_lit, hst]
      · have e1 := hrow.1
        rw [List.length_append] at hcs hfit ⊢
        rw [List.length_append, List.length_drop]
        omega
      · rw [hsp]
        refine setRow_blk hblk ?_
        rw [List.length_append] at hfit ⊢
        rw [List.length_append, List.length_append, List.length_drop]
        have e1 := hrow.1
        omega
    · have hgr := grown cap (by omega) (some g)
      refine ⟨_, _, _, ?_, hgr.1, hgr.2, .inr ⟨rfl, rfl, (grown cap (by omega) none).2⟩⟩
      have h63' : ¬ (9223372036854775807 < ((n : Int) + (m : Int))) := by omega
      have hn0 := hnext cap (by omega)
      have hold : (Builtin.firstCells i.size n (.slice (some ⟨g, 0, none⟩) n cap)).run P w.drew = .ok xs.toArray w.drew := by
        have hs : SlAt w.drew (some ⟨g, 0, none⟩) xs := (Blk.of_eq hblk rfl).sl0.left
        have := run_loadCells_list (P := P) w.drew ⟨g, 0, none⟩ xs (fun j v hv => hs.get hv)
        rw [hrow.1] at this
        exact this
      rcases hdx with rfl | rfl <;> (simp [Builtin.append_, run_underlying ht, run_underlying htx, sizeOf, typeInfo, zeroValue, hi, hz, hlen, hroom, h63', hn0, Question.forced, hold, hc1, newRow, grownCap]; congr 2; apply Array.ext'; simp)


section
variable {P : Program} {n : Nat} {S : List Nat} {w0 : World} {ops : Array Oper} {Q : QE} {rest : List Oper} {d : Tmp} {ty : TypeId} {pos : String} {af : Array Edge} {g : Option (Nat × Bool)} {env : Env} {L : List Res}

theorem cellsOfSl {size m cx : Nat} {A : Option Addr} {news : List Value} {w : World} (hA : SlAt w A news) (hl : news.length = m * size) : ∀ k, (Builtin.firstCells size m (.slice A m cx)).run P (w.drewN k) = .ok news.toArray (w.drewN k) := by
  intro j
  cases A with
  | none =>
    have : news = [] := by
      cases news with
      | nil => rfl
      | cons u r => obtain ⟨a', e, _⟩ := hA 0 u rfl; simp at e
    subst this
    rfl
  | some ad =>
    have := run_loadCells_list (P := P) (w.drewN j) ad news (fun i u hu => hA.get hu)
    rw [hl] at this
    exact this
theorem cellsOfStr {l : List UInt8} {w : World} : ∀ k, (Builtin.firstCells 1 l.length (.string ⟨l.toArray⟩)).run P (w.drewN k) = .ok (bys l).toArray (w.drewN k) := by
  intro j
  have : (⟨l.toArray⟩ : ByteArray).extract 0 l.length = ⟨l.toArray⟩ := by
    apply ByteArray.ext
    simp
  simp [Builtin.firstCells, this, bys]
/-- append, of what the block's type may be -/
theorem l_appendT {t tx e T : TypeId} {s x : Operand} {z : Value} {size bytes p m cx : Nat} {v : Value} {xs news : List Value} {A : Option Addr} (k : Nat) (hs : evalE env s = some v) (hx : evalE env x = some (.slice A m cx)) (hk : L[k]? = some (.row T size v p xs)) (hu : P.underlying t = some (.slice e)) (htx : P.underlying tx = some (.slice e))
    (hi : (P.info? e).map (fun i => (i.zero, i.size, i.bytes)) = some (some z, size, bytes)) (hzs : z.cells.size = size) (hb1 : bytes ≤ 1099511627776) (hA : Reads S w0 L A news) (hl : news.length = m * size) (h1 : ∀ u ∈ news, u.oneCell' = true)
    (hbytes : (p + m) * bytes ≤ 70368744177664) (hmax : p + m ≤ 70368744177664) (hd : dstOk n (some d) = true) (h : ∀ B c T', p + m ≤ c → c ≤ maxLen → VL P n S w0 ops Q rest ((d, .slice B (p + m) c) :: env) (L.set k (.row T' size (.slice B (p + m) c) (p + m) (xs ++ news)))) :
    VL P n S w0 ops Q ({ dst := some d, op := .call { callee := .builtin .append, args := #[s, x], argTypes := #[t, tx] }, type := ty, pos, after := af, guard := none } :: rest) env L :=
  vl_run trivial fun a w hm H => by
    obtain ⟨i, hi, hz', h1', h2'⟩ := info_parts hi
    obtain ⟨v', w', T', hr, hrow, hg, hat⟩ := run_append_rowT (P := P) w t tx ty e i z size bytes hu (.slice e) htx (.inl rfl) hi hz' h1' h2' hzs v p xs (H.get hk) (.slice A m cx) m news hl (fun w' => rfl) (cellsOfSl (hA w H) hl) h1 hbytes hmax hb1
    refine opw_val (v := v') (w' := w') (by simp only [BigFrame.execOp_builtin, BigFrame.builtin_append, List.map_toArray, List.map_cons, List.map_nil, hm.eval hs, hm.eval hx, Sem.run_bind, hr, Result.andThen_ok, Sem.run_pure]) ?_
    obtain ⟨B, c, rfl, hc, hcm, _⟩ := Row.slice hrow
    refine (h B c T' hc hcm).run _ w' (hm.put hd _) (H.change hk hg hrow ?_)
    intro b hb
    simp only [Res.at] at hb ⊢
    rcases hat with ⟨e, _⟩ | ⟨e, _⟩
    · exact .inl (e ▸ hb)
    · rw [hb] at e; simp only [Option.some.injEq] at e; exact .inr (by omega)
/-- append of a text -/
theorem l_appendS {t tx e T : TypeId} {s x : Operand} {z : Value} {bytes p : Nat} {v : Value} {xs : List Value} {l : List UInt8} (k : Nat) (hs : evalE env s = some v) (hx : evalE env x = some (.string ⟨l.toArray⟩)) (hk : L[k]? = some (.row T 1 v p xs)) (hu : P.underlying t = some (.slice e)) (htx : P.underlying tx = some .string)
    (hi : (P.info? e).map (fun i => (i.zero, i.size, i.bytes)) = some (some z, 1, bytes)) (hzs : z.cells.size = 1) (hb1 : bytes ≤ 1099511627776)
    (hbytes : (p + l.length) * bytes ≤ 70368744177664) (hmax : p + l.length ≤ 70368744177664) (hd : dstOk n (some d) = true) (h : ∀ B c T', p + l.length ≤ c → c ≤ maxLen → (T = e → T' = e) → VL P n S w0 ops Q rest ((d, .slice B (p + l.length) c) :: env) (L.set k (.row T' 1 (.slice B (p + l.length) c) (p + l.length) (xs ++ bys l)))) :
    VL P n S w0 ops Q ({ dst := some d, op := .call { callee := .builtin .append, args := #[s, x], argTypes := #[t, tx] }, type := ty, pos, after := af, guard := none } :: rest) env L :=
  vl_run trivial fun a w hm H => by
    obtain ⟨i, hi, hz', h1', h2'⟩ := info_parts hi
    obtain ⟨v', w', T', hr, hrow, hg, hat⟩ := run_append_rowT (P := P) w t tx ty e i z 1 bytes hu .string htx (.inr rfl) hi hz' h1' h2' hzs v p xs (H.get hk) (.string ⟨l.toArray⟩) l.length (bys l) (by rw [bys_length, Nat.mul_one]) (fun w' => by simp [Builtin.lenOf, ByteArray.size]) cellsOfStr (bys_one _) hbytes hmax hb1
    refine opw_val (v := v') (w' := w') (by simp only [BigFrame.execOp_builtin, BigFrame.builtin_append, List.map_toArray, List.map_cons, List.map_nil, hm.eval hs, hm.eval hx, Sem.run_bind, hr, Result.andThen_ok, Sem.run_pure]) ?_
    obtain ⟨B, c, rfl, hc, hcm, _⟩ := Row.slice hrow
    refine (h B c T' hc hcm (fun eT => by rcases hat with ⟨_, e', _⟩ | ⟨_, e', _⟩ <;> rw [e'] <;> exact eT)).run _ w' (hm.put hd _) (H.change hk hg hrow ?_)
    intro b hb
    simp only [Res.at] at hb ⊢
    rcases hat with ⟨e, _⟩ | ⟨e, _⟩
    · exact .inl (e ▸ hb)
    · rw [hb] at e; simp only [Option.some.injEq] at e; exact .inr (by omega)
/-- append of a text to a row that is full: new memory -/
theorem q_appendSN {t tx e T : TypeId} {s x : Operand} {z : Value} {bytes p : Nat} {A : Option Addr} {xs : List Value} {l : List UInt8} (k : Nat) (hs : evalE env s = some (.slice A p p)) (hx : evalE env x = some (.string ⟨l.toArray⟩)) (hk : L[k]? = some (.row T 1 (.slice A p p) p xs)) (hu : P.underlying t = some (.slice e)) (htx : P.underlying tx = some .string)
    (hi : (P.info? e).map (fun i => (i.zero, i.size, i.bytes)) = some (some z, 1, bytes)) (hzs : z.cells.size = 1) (hb1 : bytes ≤ 1099511627776)
    (hbytes : (p + l.length) * bytes ≤ 70368744177664) (hmax : p + l.length ≤ 70368744177664) (h0 : 0 < l.length) :
    QT P n S w0 { dst := some d, op := .call { callee := .builtin .append, args := #[s, x], argTypes := #[t, tx] }, type := ty, pos, after := af, guard := g } env L (.any (isSl (p + l.length)) (nRow e 1 (p + l.length) (xs ++ bys l))) :=
  ⟨fun a w hm H => by
    obtain ⟨i, hi, hz', h1', h2'⟩ := info_parts hi
    obtain ⟨v', w', T', hr, hrow, hg, hat⟩ := run_append_rowT (P := P) w t tx ty e i z 1 bytes hu .string htx (.inr rfl) hi hz' h1' h2' hzs (.slice A p p) p xs (H.get hk) (.string ⟨l.toArray⟩) l.length (bys l) (by rw [bys_length, Nat.mul_one]) (fun w' => by simp [Builtin.lenOf, ByteArray.size]) cellsOfStr (bys_one _) hbytes hmax hb1
    refine opw_val (v := v') (w' := w') (by simp only [BigFrame.execOp_builtin, BigFrame.builtin_append, List.map_toArray, List.map_cons, List.map_nil, hm.eval hs, hm.eval hx, Sem.run_bind, hr, Result.andThen_ok, Sem.run_pure]) ?_
    rcases hat with ⟨_, _, h3⟩ | ⟨e1, rfl, hg'⟩
    · rcases h3 with h3 | ⟨A', l', c', h3, h4⟩
      · omega
      · cases h3; omega
    · obtain ⟨B, c, rfl, hc, hcm, _⟩ := Row.slice hrow
      exact ⟨_, rfl, fun h => by simp at h, ⟨B, c, rfl, hc, hcm⟩, (St.refl w).add hg' hrow (fun b hb => by simp only [Res.at] at hb; rw [hb] at e1; simp only [Option.some.injEq] at e1; omega)⟩⟩
/-- append of nothing -/
theorem q_appendS0 {t tx e T : TypeId} {s x : Operand} {z : Value} {bytes p c : Nat} {A : Option Addr} {xs : List Value} (k : Nat) (hs : evalE env s = some (.slice A p c)) (hx : evalE env x = some (.string ⟨#[]⟩)) (hk : L[k]? = some (.row T 1 (.slice A p c) p xs)) (hu : P.underlying t = some (.slice e)) (htx : P.underlying tx = some .string)
    (hi : (P.info? e).map (fun i => (i.zero, i.size, i.bytes)) = some (some z, 1, bytes)) (hpc : p ≤ c) :
    QT P n S w0 { dst := some d, op := .call { callee := .builtin .append, args := #[s, x], argTypes := #[t, tx] }, type := ty, pos, after := af, guard := g } env L (.val (.slice A p c)) :=
  q_of rfl fun a w hm H => by
    obtain ⟨i, hi, hz', h1', h2'⟩ := info_parts hi
    have hrow : Res.ok w (.row T 1 (.slice A p c) p xs) := H.get hk
    have hfc : (Builtin.firstCells 1 0 (.string ⟨#[]⟩)).run P w = .ok #[] w := by
      have := cellsOfStr (P := P) (l := []) (w := w) 0
      exact this
    have hr : (Builtin.append_ #[t, tx] ty #[.slice A p c, .string ⟨#[]⟩]).run P w = .ok (.slice A p c) w := by
      rcases hrow.2 with ⟨e1, rfl⟩ | ⟨b, cap, more, e1, _, _, _, _⟩
      · cases e1
        simp [Builtin.append_, run_underlying hu, run_underlying htx, sizeOf, typeInfo, hi, h1', Builtin.lenOf, ByteArray.size, hfc, Result.andThen]
      · cases e1
        simp [Builtin.append_, run_underlying hu, run_underlying htx, sizeOf, typeInfo, hi, h1', Builtin.lenOf, ByteArray.size, hfc, hpc, Result.andThen, storeCells]
    simp only [BigFrame.execOp_builtin, BigFrame.builtin_append, List.map_toArray, List.map_cons, List.map_nil, hm.eval hs, hm.eval hx, Sem.run_bind, hr, Result.andThen_ok, Sem.run_pure]
/-! ### function values that hold variables -/
theorem execClo {a : Act} {dst : Option Tmp} {f : FuncId} {xo : Operand} {xs : Array Operand} {ats : Array TypeId} {caps : Array Value} (h : a.eval xo = .func (.func f) #[] caps) :
    execOp a.eval { dst, op := .call { callee := .value xo, args := xs, argTypes := ats }, type := ty, pos, after := af, guard := g } = callFunc f (#[] ++ xs.map a.eval ++ caps) := by
  have e1 : ∀ c : Call, c.callee = .value xo → resolve a.eval c ty = pure { target := .fn (.func f) caps, args := #[] ++ c.args.map a.eval } := by
    intro c hc
    unfold resolve
    rw [hc]
    simp only [h]
    rfl
  show (do let d ← resolve a.eval { callee := .value xo, args := xs, argTypes := ats } ty; invoke d.target d.args) = _
  rw [e1 _ rfl]
  rfl
theorem q_makeFunc {f : FuncId} {caps : Array Operand} {vs : List Value} (hx : evalsE env caps.toList = some vs) :
    QT P n S w0 { dst := some d, op := .makeFunc (.func f) #[] caps, type := ty, pos, after := af, guard := g } env L (.val (.func (.func f) #[] vs.toArray)) :=
  q_of rfl fun a w hm H => by
    have e := hm.evals hx
    have e2 : caps.map a.eval = vs.toArray := by
      apply Array.ext'
      simpa using e
    show (do pure (Next.value (← Instr.makeFunc (.func f) (#[].map a.eval) (caps.map a.eval))) : Sem Next).run P w = _
    rw [e2]
    simp [Instr.makeFunc]
theorem opw_clo {a : Act} {w : World} {dst : Option Tmp} {Qx : Act → World → Prop} {QQ : Exit → Act → World → Prop} {f : FuncId} {fn : Func} {xo : Operand} {xs : Array Operand} {ats : Array TypeId} {caps : Array Value} (args : List Value) (hf : P.funcs[f]? = some fn) (hb : fn.body.isSome = true) (hn : (fn.name == "runtime.NumGoroutine") = false) (hxo : a.eval xo = .func (.func f) #[] caps) (hargs : xs.toList.map a.eval ++ caps.toList = args)
    (hc : Calls P f args.toArray w (fun e w' => ∃ v, e = .returned v ∧ Qx (a.put dst v) w')) : Oper.wp P { dst, op := .call { callee := .value xo, args := xs, argTypes := ats }, type := ty, pos, after := af, guard := g } a w Qx QQ := by
  unfold Oper.wp
  have hbn : ¬ fn.body = none := by intro h; rw [h] at hb; cases hb
  have hn' : ¬ fn.name = "runtime.NumGoroutine" := by intro h; rw [h] at hn; simp at hn
  have e1 : (callFunc f args.toArray).run P w = .ok (.enter f args.toArray) w := by
    simp [callFunc, hf, hn', hbn]
  have e2 : (#[] ++ xs.map a.eval ++ caps : Array Value) = args.toArray := by
    rw [← hargs]
    apply Array.ext'
    simp
  rw [execClo hxo, e2, e1]
  refine hc.mono ?_
  rintro e w' ⟨v, rfl, h⟩
  exact h
/-- a call of a function value, that writes -/
theorem l_clo {f : FuncId} {fn : Func} {xo : Operand} {xs : Array Operand} {ats : Array TypeId} {caps args : List Value} {F : Value → List Res → Prop} (hxo : evalE env xo = some (.func (.func f) #[] caps.toArray)) (hf : P.funcs[f]? = some fn) (hb : fn.body.isSome = true) (hn : (fn.name == "runtime.NumGoroutine") = false) (hx : evalsE env xs.toList = some args)
    (hc : ∀ w, St S w0 L w → Calls P f (args ++ caps).toArray w (fun e w' => ∃ v L', e = .returned v ∧ F v L' ∧ St S w0 L' w')) (hd : dstOk n (some d) = true) (h : ∀ v L', F v L' → VL P n S w0 ops Q rest ((d, v) :: env) L') :
    VL P n S w0 ops Q ({ dst := some d, op := .call { callee := .value xo, args := xs, argTypes := ats }, type := ty, pos, after := af, guard := none } :: rest) env L :=
  vl_run trivial fun a w hm H => opw_clo (args ++ caps) hf hb hn (hm.eval hxo) (by rw [hm.evals hx]) ((hc w H).mono fun e w' ⟨v, L', h1, h2, h3⟩ => ⟨v, h1, (h v L' h2).run _ w' (hm.put hd v) h3⟩)
end
/-! ### slices that are written out, of elements of several cells -/
theorem foldSet : ∀ (v : List Value) (k off : Nat) (cs : List Value), off + k + v.length ≤ cs.length → (v.zipIdx k).foldl (fun (cs : Array Value) (p : Value × Nat) => cs.setIfInBounds (off + p.2) p.1) cs.toArray = (cs.take (off + k) ++ v ++ cs.drop (off + k + v.length)).toArray
  | [], k, off, cs, h => by simp
  | x :: r, k, off, cs, h => by
    simp only [List.length_cons] at h
    rw [List.zipIdx_cons, List.foldl_cons]
    have e1 : cs.toArray.setIfInBounds (off + k) x = (cs.set (off + k) x).toArray := by simp
    simp only [e1]
    rw [foldSet r (k + 1) off (cs.set (off + k) x) (by simp; omega)]
    have e2 : (cs.set (off + k) x).take (off + (k + 1)) = cs.take (off + k) ++ [x] := by
      rw [show off + (k + 1) = off + k + 1 by omega, List.take_succ_eq_append_getElem (by simp; omega), List.take_set_of_le (by omega)]
      simp
    have e3 : (cs.set (off + k) x).drop (off + (k + 1) + r.length) = cs.drop (off + k + (x :: r).length) := by
      rw [List.drop_set_of_lt (by omega)]
      congr 1
      simp
      omega
    rw [e2, e3]
    simp
theorem fillG (size : Nat) : ∀ (vs : List (List Value)) (k : Nat) (c : List Value), (∀ v ∈ vs, v.length = size) → (k + vs.length) * size ≤ c.length →
    Instr.fill (fun i => some (i * size, size)) c.toArray ((List.range' k vs.length).zip (vs.map fun v => Value.agg v.toArray)) = some (c.take (k * size) ++ vs.flatten ++ c.drop ((k + vs.length) * size)).toArray
  | [], k, c, _, _ => by simp [Instr.fill]
  | v :: r, k, c, hv, h => by
    have hvl := hv v (by simp)
    simp only [List.length_cons] at h ⊢
    have h2 : k * size + size ≤ c.length := by
      have : (k + (r.length + 1)) * size = k * size + size + r.length * size := by rw [Nat.add_mul, Nat.add_mul]; omega
      omega
    rw [List.range'_succ, List.map_cons, List.zip_cons_cons]
    have hcells : (Value.agg v.toArray).cells = v.toArray := rfl
    simp only [Instr.fill, hcells]
    rw [if_neg (by simp [hvl]; omega)]
    have hf := foldSet v 0 (k * size) c (by omega)
    have e0 : (v.toArray.zipIdx.foldl (fun (cs : Array Value) (x : Value × Nat) => match x with | (c, j) => cs.setIfInBounds (k * size + j) c) c.toArray) = (c.take (k * size) ++ v ++ c.drop (k * size + size)).toArray := by
      rw [← Array.foldl_toList, Array.toList_zipIdx]
      rw [Nat.add_zero, hvl] at hf
      exact hf
    rw [e0]
    have hcl : (c.take (k * size) ++ v ++ c.drop (k * size + size)).length = c.length := by simp [hvl]; omega
    rw [fillG size r (k + 1) _ (fun u hu => hv u (by simp [hu])) (by rw [hcl]; rw [show k + 1 + r.length = k + (r.length + 1) by omega]; exact h)]
    have hk1 : (k + 1) * size = k * size + size := by rw [Nat.add_mul, Nat.one_mul]
    have hlt : (c.take (k * size)).length = k * size := by simp; omega
    have e1 : (c.take (k * size) ++ v ++ c.drop (k * size + size)).take ((k + 1) * size) = c.take (k * size) ++ v := by
      rw [List.take_append_of_le_length (by simp [hvl]; omega), List.take_of_length_le (by simp [hvl]; omega)]
    have e2 : (c.take (k * size) ++ v ++ c.drop (k * size + size)).drop ((k + 1 + r.length) * size) = c.drop ((k + (r.length + 1)) * size) := by
      have h3 : (k + 1 + r.length) * size = k * size + size + r.length * size := by rw [Nat.add_mul, Nat.add_mul]; omega
      have h4 : (k + (r.length + 1)) * size = k * size + size + r.length * size := by rw [Nat.add_mul, Nat.add_mul]; omega
      rw [h3, h4, List.drop_append, List.drop_eq_nil_of_le (by simp [hvl]; omega), List.nil_append, List.drop_drop]
      congr 1
      simp [hvl]
      omega
    rw [e1, e2]
    simp
section
variable {P : Program} {n : Nat} {S : List Nat} {w0 : World} {ops : Array Oper} {Q : QE} {rest : List Oper} {d : Tmp} {ty : TypeId} {pos : String} {af : Array Edge} {g : Option (Nat × Bool)} {env : Env} {L : List Res}
theorem q_litG {t e : TypeId} {m size bytes : Nat} {pr : Array (Nat × Operand)} {z : Value} (vs : List (List Value)) (hu : P.underlying t = some (.slice e)) (hi : (P.info? e).map (fun i => (i.zero, i.size, i.bytes)) = some (some z, size, bytes)) (hsm : m * size ≤ 16777216) (hsz : 0 < size)
    (hp : evalsE env (pr.toList.map (·.2)) = some (vs.map fun v => Value.agg v.toArray)) (hm : vs.length = m) (hi2 : pr.toList.map (·.1) = List.range m) (h1 : ∀ v ∈ vs, v.length = size) :
    QT P n S w0 { dst := some d, op := .buildSlice t m pr, type := ty, pos, after := af, guard := g } env L (.any (fun u => ∃ b, u = .slice (some ⟨b, 0, none⟩) m m) (nRow e size m vs.flatten)) :=
  ⟨fun a w hmo H => by
    have hps : (pr.map fun (i, x) => (i, a.eval x)).toList = (List.range' 0 vs.length).zip (vs.map fun v => Value.agg v.toArray) := by
      have h2 := hmo.evals hp
      rw [List.map_map] at h2
      rw [← h2, hm, ← List.range_eq_range', ← hi2, Array.toList_map]
      rw [List.zip_map']
      rfl
    refine opw_lit vs.flatten (St.refl w) hu hi hsm ?_ ?_ ?_ fun w' b H' => ⟨_, rfl, fun h => by simp at h, ⟨b, rfl⟩, H'⟩
    · rw [hps]
      have hz : (if m * size = 0 then #[] else (Array.range (m * size)).map (z.cells[· % z.cells.size]!)) = ((List.range (m * size)).map (z.cells[· % z.cells.size]!)).toArray := by
        split
        · rename_i h0; rw [h0]; rfl
        · apply Array.ext'; simp
      rw [hz, fillG size vs 0 _ h1 (by simp [hm])]
      simp [hm]
    · have : ∀ l : List (List Value), (∀ v ∈ l, v.length = size) → l.flatten.length = l.length * size := by
        intro l
        induction l with
        | nil => intro _; simp
        | cons x r ih => intro h; rw [List.flatten_cons, List.length_append, ih (fun v hv => h v (by simp [hv])), h x (by simp), List.length_cons, Nat.add_mul]; omega
      rw [this vs h1, hm]
    · have : m ≤ m * size := Nat.le_mul_of_pos_right _ hsz
      simp only [maxLen]; omega⟩
theorem l_litG {t e : TypeId} {m size bytes : Nat} {pr : Array (Nat × Operand)} {z : Value} (vs : List (List Value)) (hu : P.underlying t = some (.slice e)) (hi : (P.info? e).map (fun i => (i.zero, i.size, i.bytes)) = some (some z, size, bytes)) (hsm : m * size ≤ 16777216) (hsz : 0 < size)
    (hp : evalsE env (pr.toList.map (·.2)) = some (vs.map fun v => Value.agg v.toArray)) (hm : vs.length = m) (hi2 : pr.toList.map (·.1) = List.range m) (h1 : ∀ v ∈ vs, v.length = size) (hd : dstOk n (some d) = true)
    (h : ∀ b, VL P n S w0 ops Q rest ((d, .slice (some ⟨b, 0, none⟩) m m) :: env) (.row e size (.slice (some ⟨b, 0, none⟩) m m) m vs.flatten :: L)) :
    VL P n S w0 ops Q ({ dst := some d, op := .buildSlice t m pr, type := ty, pos, after := af, guard := none } :: rest) env L :=
  vl_q (q_litG vs hu hi hsm hsz hp hm hi2 h1) trivial hd (by rintro v ⟨b, rfl⟩; exact h b)
end
/-! ### the bytes of a text, as a new row -/
section
variable {P : Program} {n : Nat} {S : List Nat} {w0 : World} {ops : Array Oper} {Q : QE} {rest : List Oper} {d : Tmp} {ty : TypeId} {pos : String} {af : Array Edge} {g : Option (Nat × Bool)} {env : Env} {L : List Res}
theorem q_bytesOf {src dst e : TypeId} {x : Operand} {l : List UInt8} (hs : P.underlying src = some .string) (hd : P.underlying dst = some (.slice e)) (he : P.underlying e = some (.int .u8)) (hx : evalE env x = some (.string ⟨l.toArray⟩)) (hl : l.length ≤ 70368744177664) :
    QT P n S w0 { dst := some d, op := .convert src dst x, type := ty, pos, after := af, guard := g } env L (.any (isSl l.length) (nRow e 1 l.length (bys l))) :=
  ⟨fun a w hm H => by
    have hr := Lib.run_convert_string_bytes (P := P) w src dst e ⟨l.toArray⟩ hs hd he
    have hsz : (⟨l.toArray⟩ : ByteArray).size = l.length := by simp [ByteArray.size]
    rw [hsz] at hr
    have hge := grownCap_ge w l.length 0 e
    have hle := grownCap_le_maxLen w l.length 0 e (by simp only [maxLen]; omega)
    have hcells : (Lib.bytesCells w e ⟨l.toArray⟩) = (bys l ++ List.replicate (grownCap w l.length 0 e - l.length) (Value.int .u8 0)).toArray := by
      unfold Lib.bytesCells
      rw [hsz]
      apply Array.ext'
      simp [bys]
    refine opw_val (v := .slice (some ⟨w.heap.size, 0, none⟩) l.length (grownCap w l.length 0 e)) (w' := Lib.bytesWorld w e ⟨l.toArray⟩) (by simp [execOp, hm.eval hx, hr, Result.andThen]) ?_
    refine ⟨_, rfl, fun h => by simp at h, ⟨_, _, rfl, hge, hle⟩, (St.refl w).add ⟨rfl, rfl, rfl, by rw [Lib.bytesWorld_size]; omega, fun k hk _ => Lib.bytesWorld_at_old w e _ k hk⟩ ⟨by rw [bys_length, Nat.mul_one], .inr ⟨_, _, List.replicate (grownCap w l.length 0 e - l.length) (Value.int .u8 0), rfl, hge, hle, by rw [List.length_append, bys_length, List.length_replicate]; omega, ⟨_, by rw [Lib.bytesWorld_at_new, hcells], ?_⟩⟩⟩ (fun b hb => by simp only [Res.at, Value.ownBlock] at hb; cases hb; exact Nat.le_refl _)⟩
    exact .inr (by simp)⟩
end
/-! ### a scope through which no goto goes -/
def QScope (Q : QE) : QE
  | .goto _, _, _ => False
  | e, env, L => Q e env L
section
variable {P : Program} {n : Nat} {S : List Nat} {w0 : World} {Q : QE} {env : Env} {L : List Res}
theorem VC_scope {c : Code} (h : VC P n S w0 c (QScope Q) env L) : VC P n S w0 (.scope c) Q env L :=
  ⟨fun a w hm H => wp_scope_straight (wp_mono (h.run a w hm H) fun e a w ⟨env, L, h1, h2, h3⟩ => by
    cases e with
    | goto l => exact h3.elim
    | _ => exact ⟨env, L, h1, h2, h3⟩)⟩
theorem sc_n (h : Q .normal env L) : QScope Q .normal env L := h
theorem sc_x {i : Nat} (h : Q (.exit i) env L) : QScope Q (.exit i) env L := h
theorem sc_r (h : Q .ret env L) : QScope Q .ret env L := h
end
end Go.PBYtngdppffcdhhlaa
