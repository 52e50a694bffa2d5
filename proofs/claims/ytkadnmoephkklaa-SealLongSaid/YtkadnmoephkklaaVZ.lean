/- Append of make: so many noughts behind a row. No condition. -/
import Derived.Test.YtkadnmoephkklaaVS
namespace Go.PBYtkadnmoephkklaa
open Go Go.RowKit
set_option linter.unusedSimpArgs false
set_option linter.unusedVariables false

theorem zeroCells1 (z : Value) (hz : z.cells = #[z]) (m : Nat) : Builtin.zeroCells z.cells m = (List.replicate m z).toArray := by
  unfold Builtin.zeroCells
  rw [hz]
  apply Array.ext'
  simp only [List.size_toArray, List.length_cons, List.length_nil, Nat.zero_add, Nat.mul_one]
  apply List.ext_getElem
  · simp
  · intro i h1 h2
    simp [Nat.mod_one]
theorem run_append_zeros {P : Program} (w : World) (t tx ty e : TypeId) (i : TypeInfo) (z : Value) (bytes : Nat) (kd : IntKind) (ht : P.underlying t = some (.slice e)) (htx : P.underlying tx = some (.int kd))
    (hi : P.info? e = some i) (hz : i.zero = some z) (hsize : i.size = 1) (hby : i.bytes = bytes) (hzc : z.cells = #[z]) (hz1 : z.oneCell' = true)
    (v : Value) (n : Nat) (xs : List Value) (hrow : Row w e 1 v n xs) (m : Nat)
    (hbytes : (n + m) * bytes ≤ 70368744177664) (hmax : n + m ≤ 70368744177664) (hb1 : bytes ≤ 16) :
    ∃ v' w', (Builtin.append_ #[t, tx] ty #[v, .int .i64 (m : Int)]).run P w = .ok v' w' ∧ Row w' e 1 v' (n + m) (xs ++ List.replicate m z) ∧ w.grownBy w' v.ownBlock ∧ (v'.ownBlock = v.ownBlock ∨ v'.ownBlock = some w.heap.size) := by
  subst hby
  have hml : n + m ≤ maxLen := by simp only [maxLen]; omega
  have hlen' : (xs ++ List.replicate m z).length = (n + m) * 1 := by rw [List.length_append, hrow.1, List.length_replicate, Nat.add_mul]; omega
  have hwr : IntKind.i64.wrap (m : Int) = (m : Int) := wi (by omega) (by omega)
  have hzc' := zeroCells1 z hzc
  have hnn : ¬ ((m : Int) < 0) := by omega
  have hmb : m * i.bytes ≤ 70368744177664 := Nat.le_trans (Nat.mul_le_mul_right _ (by omega)) hbytes
  have hbig : ¬ ((m : Int) * (i.bytes : Int) > 281474976710656) := by
    have h1 : ((m * i.bytes : Nat) : Int) ≤ ((70368744177664 : Nat) : Int) := Int.ofNat_le.2 hmb
    rw [Int.natCast_mul] at h1
    omega
  have hnotint : ¬ ((n : Int) + (m : Int) > 9223372036854775807) := by omega
  have hnext : ∀ c, c < n + m → ¬ (281474976710656 < Builtin.nextslicecap (n + m) c * i.bytes) := by
    intro c hc h
    have h2 := nextcap_le (n + m) c hc
    have h3 : Builtin.nextslicecap (n + m) c * i.bytes ≤ (2 * (n + m) + 1024) * i.bytes := Nat.mul_le_mul_right _ h2
    have h4 : (2 * (n + m) + 1024) * i.bytes = 2 * ((n + m) * i.bytes) + 1024 * i.bytes := by rw [Nat.add_mul, Nat.mul_assoc]
    omega
  have hz0 : m = 0 → (List.replicate m z).toArray = #[] := by rintro rfl; rfl
  have happ : ∀ w' : World, ((if m * i.size = 0 then pure #[] else do pure (Builtin.zeroCells (← zeroValue e).cells m) : Sem (Array Value))).run P w' = .ok (List.replicate m z).toArray w' := by
    intro w'
    by_cases hm : m = 0
    · subst hm; simp [hsize]
    · simp [hsize, hm, zeroValue, typeInfo, hi, hz, hzc']
  have grown : ∀ (old : Nat), old < n + m → ∀ (row : Option Nat), Row (w.drew.alloc (.cells (xs.toArray ++ (List.replicate m z).toArray ++ Builtin.zeroCells z.cells (grownCap w (n + m) old e - (n + m))) e)) e 1
        (.slice (some ⟨w.heap.size, 0, none⟩) (n + m) (grownCap w (n + m) old e)) (n + m) (xs ++ List.replicate m z) ∧
      w.grownBy (w.drew.alloc (.cells (xs.toArray ++ (List.replicate m z).toArray ++ Builtin.zeroCells z.cells (grownCap w (n + m) old e - (n + m))) e)) row := by
    intro old ho row
    have hge := grownCap_ge w (n + m) old e
    have hcm : grownCap w (n + m) old e ≤ maxLen := grownCap_le_maxLen w (n + m) old e hml
    refine ⟨⟨hlen', .inr ⟨w.heap.size, _, (Builtin.zeroCells z.cells (grownCap w (n + m) old e - (n + m))).toList, rfl, hge, hcm, ?_, ⟨(0, 0), ?_, ?_⟩⟩⟩, ⟨rfl, rfl, rfl, by simp, fun k hk _ => Below.heap_alloc w.drew _ k hk⟩⟩
    · rw [hzc', List.length_append, hlen', List.toList_toArray, List.length_replicate]
      omega
    · have := heap_alloc_new w.drew (.cells (xs.toArray ++ (List.replicate m z).toArray ++ Builtin.zeroCells z.cells (grownCap w (n + m) old e - (n + m))) e)
      rw [show w.drew.heap.size = w.heap.size from rfl] at this
      rw [this]
      congr 2
      apply Array.ext'
      simp
    · exact .inl rfl
  rcases hrow.2 with ⟨rfl, rfl⟩ | ⟨g, cap, more, rfl, hnc, hcm, hcs, hblk⟩
  · have hx : xs = [] := List.eq_nil_of_length_eq_zero (by simpa using hrow.1)
    subst hx
    by_cases hm : m = 0
    · subst hm
      refine ⟨.slice none 0 0, w, ?_, ⟨by simp, .inl ⟨rfl, rfl⟩⟩, ⟨rfl, rfl, rfl, Nat.le_refl _, fun _ _ _ => rfl⟩, .inl rfl⟩
      simp [Builtin.append_, run_underlying ht, run_underlying htx, sizeOf, typeInfo, hi, hsize, asInt, asIntOf, wi]
    · have hgr := grown 0 (by omega) (Value.ownBlock (.slice none 0 0))
      simp only [Nat.zero_add, List.nil_append, Array.empty_append] at hgr ⊢
      refine ⟨_, _, ?_, hgr.1, hgr.2, .inr rfl⟩
      have hn0 := hnext 0 (by omega)
      simp only [Nat.zero_add] at hn0
      have h63' : ¬ (9223372036854775807 < (m : Int)) := by omega
      have hold : (Builtin.firstCells 1 0 (.slice none 0 0)).run P w.drew = .ok #[] w.drew := rfl
      simp [Builtin.append_, run_underlying ht, run_underlying htx, sizeOf, typeInfo, zeroValue, hi, hz, hsize, asInt, asIntOf, hwr, hnn, hbig, hm, h63', hn0, Question.forced, hold, happ, hzc', newRow, grownCap]
  · by_cases hroom : n + m ≤ cap
    · have hfit : n * 1 + (List.replicate m z).length ≤ (xs ++ more).length := by rw [hcs, List.length_replicate]; omega
      have hst := run_storeCells_blk P hblk (n * 1) (List.replicate m z) hfit (fun u hu => by rw [List.eq_of_mem_replicate hu]; exact hz1)
      have hsp : splice (xs ++ more) (n * 1) (List.replicate m z) = (xs ++ List.replicate m z) ++ (more.drop m) := by
        unfold splice
        rw [← hrow.1]
        simp [List.drop_append]
      refine ⟨.slice (some ⟨g, 0, none⟩) (n + m) cap, _, ?_, ⟨hlen', .inr ⟨g, cap, more.drop m, rfl, hroom, hcm, ?_, ?_⟩⟩, grownBy_setRow w g (splice (xs ++ more) (n * 1) (List.replicate m z)).toArray, .inl rfl⟩
      · rw [Nat.mul_one] at hst
        by_cases hm : m = 0
        · subst hm
          have hw0 : IntKind.i64.wrap 0 = 0 := wi (by decide) (by decide)
          have hr0 : n ≤ cap := hnc
          have hst' : (storeCells ⟨g, n, none⟩ []).run P w = .ok () (w.setRow g (splice (xs ++ more) (n * 1) (List.replicate 0 z)).toArray) := by
            rw [Nat.mul_one] at *
            exact hst
          simp [Builtin.append_, run_underlying ht, run_underlying htx, sizeOf, typeInfo, zeroValue, hi, hz, hsize, asInt, asIntOf, hw0, hr0, Addr.add_lit, hst']
        · simp [Builtin.append_, run_underlying ht, run_underlying htx, sizeOf, typeInfo, zeroValue, hi, hz, hsize, asInt, asIntOf, hwr, hnn, hbig, hroom, hm, hzc', Addr.add_lit, hst]
      · have e1 := hrow.1
        rw [List.length_append] at hcs ⊢
        rw [List.length_append, List.length_drop, List.length_replicate]
        omega
      · rw [hsp]
        refine setRow_blk hblk ?_
        rw [List.length_replicate] at hfit
        rw [List.length_append] at hfit ⊢
        rw [List.length_append, List.length_append, List.length_drop, List.length_replicate]
        have e1 := hrow.1
        omega
    · have hgr := grown cap (by omega) (some g)
      refine ⟨_, _, ?_, hgr.1, hgr.2, .inr rfl⟩
      have hm : ¬ m = 0 := by omega
      have h63' : ¬ (9223372036854775807 < ((n : Int) + (m : Int))) := by omega
      have hn0 := hnext cap (by omega)
      have hold : (Builtin.firstCells 1 n (.slice (some ⟨g, 0, none⟩) n cap)).run P w.drew = .ok xs.toArray w.drew := by
        have hs : SlAt w.drew (some ⟨g, 0, none⟩) xs := (Blk.of_eq hblk rfl).sl0.left
        have := run_loadCells_list (P := P) w.drew ⟨g, 0, none⟩ xs (fun j v hv => hs.get hv)
        rw [hrow.1] at this
        exact this
      simp [Builtin.append_, run_underlying ht, run_underlying htx, sizeOf, typeInfo, zeroValue, hi, hz, hsize, asInt, asIntOf, hwr, hnn, hbig, hroom, hm, h63', hn0, Question.forced, hold, happ, hzc', newRow, grownCap]
section
variable {P : Program} {n : Nat} {S : List Nat} {w0 : World} {ops : Array Oper} {Q : QE} {rest : List Oper} {d : Tmp} {ty : TypeId} {pos : String} {af : Array Edge} {env : Env} {L : List Res}
theorem l_appendZ {t tx e : TypeId} {s x : Operand} {z : Value} {bytes p m : Nat} {kd : IntKind} {v : Value} {xs : List Value} (k : Nat) (hs : evalE env s = some v) (hx : evalE env x = some (.int .i64 (m : Int))) (hk : L[k]? = some (.row e 1 v p xs)) (hu : P.underlying t = some (.slice e)) (htx : P.underlying tx = some (.int kd))
    (hi : (P.info? e).map (fun i => (i.zero, i.size, i.bytes)) = some (some z, 1, bytes)) (hzc : z.cells = #[z]) (hz1 : z.oneCell' = true) (hb1 : bytes ≤ 16)
    (hbytes : (p + m) * bytes ≤ 70368744177664) (hmax : p + m ≤ 70368744177664) (hd : dstOk n (some d) = true) (h : ∀ B c, p + m ≤ c → VL P n S w0 ops Q rest ((d, .slice B (p + m) c) :: env) (L.set k (.row e 1 (.slice B (p + m) c) (p + m) (xs ++ List.replicate m z)))) :
    VL P n S w0 ops Q ({ dst := some d, op := .call { callee := .builtin .append, args := #[s, x], argTypes := #[t, tx] }, type := ty, pos, after := af, guard := none } :: rest) env L :=
  vl_run trivial fun a w hm H => by
    obtain ⟨i, hi, hz', h1', h2'⟩ := info_parts hi
    obtain ⟨v', w', hr, hrow, hg, hat⟩ := run_append_zeros (P := P) w t tx ty e i z bytes kd hu htx hi hz' h1' h2' hzc hz1 v p xs (H.get hk) m hbytes hmax hb1
    refine opw_val (v := v') (w' := w') (by simp only [BigFrame.execOp_builtin, BigFrame.builtin_append, List.map_toArray, List.map_cons, List.map_nil, hm.eval hs, hm.eval hx, Sem.run_bind, hr, Result.andThen_ok, Sem.run_pure]) ?_
    obtain ⟨B, c, rfl, hc, hcm, _⟩ := Row.slice hrow
    refine (h B c hc).run _ w' (hm.put hd _) (H.change hk hg hrow ?_)
    intro b hb
    simp only [Res.at] at hb ⊢
    rcases hat with e | e
    · exact .inl (e ▸ hb)
    · rw [hb] at e; simp only [Option.some.injEq] at e; exact .inr (by omega)
end
end Go.PBYtkadnmoephkklaa
