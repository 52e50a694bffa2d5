/- What the store of kept keys does: one is let go. No condition. -/
import Derived.Test.YtngdppffcdhhlaaK11b
namespace Go.Proofs.Ytngdppffcdhhlaa
open Go.RowKit Go.PBYtngdppffcdhhlaa
set_option linter.unusedVariables false
set_option linter.unusedSimpArgs false
set_option maxRecDepth 10000

/-- the parts of a store -/
def Sk (b m : Nat) (o : Obj) (v : Value) (L : List Ent) : List Res :=
  [.blk b 49 [.map (some m), v], .obj m o, .row 51 33 v L.length (ordC L)]

theorem ofInfo : (Try.prog.info? 51).map (fun i => (i.zero, i.size, i.bytes)) = some (some (Value.agg ((List.replicate 32 (Value.int .u8 0)) ++ [Value.int .i64 0]).toArray), 33, 40) := by kernel_rfl
theorem storeSize : (Try.prog.info? 49).map (·.size) = some 2 := by kernel_rfl

theorem mapE_keyed {L : List Ent} (hG : GoodL L) : ∀ p ∈ mapE L, ∃ l, keyOf Try.prog 51 p.1 = some l := by
  intro p hp
  obtain ⟨e, he, rfl⟩ := List.mem_map.1 hp
  exact flatOf.key _ (fits_kc (hG.ok e he).p (hG.ok e he).n)
theorem mapE_at {L : List Ent} (hG : GoodL L) {j i : Nat} {e : Ent} {v : Value} (hj : L[j]? = some e) (hi : (mapE L)[i]? = some (.agg e.kc.toArray, v)) : i = j ∧ v = .agg (bys e.k).toArray := by
  simp only [mapE, List.getElem?_map] at hi
  cases hx : L[i]? with
  | none => rw [hx] at hi; simp at hi
  | some x =>
    rw [hx] at hi
    simp only [Option.map_some, Option.some.injEq, Prod.mk.injEq, Value.agg.injEq] at hi
    have h1 : x.kc = e.kc := by simpa using hi.1
    have h2 : x.key = e.key := kc_inj h1
    have h3 : (L.map Ent.key)[i]? = some e.key := by rw [List.getElem?_map, hx, ← h2]; rfl
    have h4 : (L.map Ent.key)[j]? = some e.key := by rw [List.getElem?_map, hj]; rfl
    have hil : i < (L.map Ent.key).length := (List.getElem?_eq_some_iff.1 h3).1
    have : i = j := (List.getElem?_inj hil hG.keys).1 (h3.trans h4.symm)
    subst this
    rw [hj] at hx
    obtain rfl := Option.some.inj hx
    exact ⟨rfl, hi.2.symm⟩
theorem ordC_one {L : List Ent} : ∀ u ∈ ordC L, u.oneCell' = true := by
  intro u hu
  simp only [ordC, List.mem_flatten, List.mem_map] at hu
  obtain ⟨c, ⟨e, he, rfl⟩, hu⟩ := hu
  simp only [Ent.kc, kc, bys, List.mem_append, List.mem_map, List.mem_singleton] at hu
  rcases hu with ⟨x, _, rfl⟩ | rfl <;> rfl

def DrC (S : List Nat) (w0 : World) (b m b3 : Nat) (o : Obj) (v : Value) (L : List Ent) (R : List Res) (j : Nat) (kc : List Value) (s : Nat) (w' : World) : Prop :=
  match s with
  | 0 => St S w0 (Sk b m o v L ++ R ++ [.blk b3 51 kc]) w'
  | _ => ∃ o', MapOf o' (mapE (L.eraseIdx j)) ∧ St S w0 (Sk b m o' v L ++ R ++ [.blk b3 51 kc]) w'

theorem last_at (X : List Res) (r : Res) : (X ++ [r])[X.length]? = some r := by simp
theorem DrC.st {S : List Nat} {w0 : World} {b m b3 : Nat} {o : Obj} {v : Value} {L : List Ent} {R : List Res} {j : Nat} {kc : List Value} {s : Nat} {w' : World} (h : DrC S w0 b m b3 o v L R j kc s w') :
    ∃ o', St S w0 (Sk b m o' v L ++ R ++ [.blk b3 51 kc]) w' := by
  match s, h with
  | 0, h => exact ⟨o, h⟩
  | s + 1, h => obtain ⟨o', _, h⟩ := h; exact ⟨o', h⟩

set_option maxHeartbeats 1600000 in
theorem drop_calls {S : List Nat} {w0 w : World} {b m : Nat} {o : Obj} {v : Value} {L : List Ent} {R : List Res} (j : Nat) (e : Ent) (H : St S w0 (Sk b m o v L ++ R) w) (hE : MapOf o (mapE L)) (hG : GoodL L) (hj : L[j]? = some e) (hn : L.length ≤ 1000000) :
    Calls Try.prog 16 #[.pointer (some ⟨b, 0, none⟩), .agg e.kc.toArray] w fun r w' => r = .returned (.tuple #[]) ∧ ∃ o' v', MapOf o' (mapE (L.eraseIdx j)) ∧ St S w0 (Sk b m o' v' (L.eraseIdx j) ++ R) w' := by
  have hG' := Lib.hid hG
  have hE' := Lib.hid hE
  have hj' := Lib.hid hj
  have hjl : j < L.length := (List.getElem?_eq_some_iff.1 hj).1
  have hem : Hid (e ∈ L) := List.mem_of_getElem? hj
  have hkl : Hid (e.kc.length = 33) := kc_length (hG.ok e hem).p
  obtain ⟨A, c, rfl, hc, hcm, hA⟩ := (H.get (k := 2) rfl).slice
  clear hG hE hj
  go_enter Try.func16, Try.ntmps16
  go_wp2_with (first | (with_reducible refine stop_box ?_) | (with_reducible refine stop_alloc ?_) | (with_reducible refine stop_load ?_) | (with_reducible refine stop_store ?_) | (with_reducible refine stop_make ?_) | (with_reducible refine stop_lit ?_) | (with_reducible refine stop_append ?_) | (with_reducible refine stop_copy ?_) | (with_reducible refine stop_map ?_) | (with_reducible refine stop_lookup ?_) | (with_reducible refine stop_update ?_) | (with_reducible refine stop_delete ?_) | (with_reducible refine stop_clear ?_) | (with_reducible refine stop_arr ?_) | (with_reducible refine stop_idx ?_) | ((with_reducible refine stopg_box ?hw ?_); case hw => rfl) | ((with_reducible refine stopg_alloc ?hw ?_); case hw => rfl) | ((with_reducible refine stopg_load ?hw ?_); case hw => rfl) | ((with_reducible refine stopg_store ?hw ?_); case hw => rfl) | ((with_reducible refine stopg_make ?hw ?_); case hw => rfl) | ((with_reducible refine stopg_lit ?hw ?_); case hw => rfl) | ((with_reducible refine stopg_append ?hw ?_); case hw => rfl) | ((with_reducible refine stopg_copy ?hw ?_); case hw => rfl) | ((with_reducible refine stopg_map ?hw ?_); case hw => rfl) | ((with_reducible refine stopg_lookup ?hw ?_); case hw => rfl) | ((with_reducible refine stopg_update ?hw ?_); case hw => rfl) | ((with_reducible refine stopg_delete ?hw ?_); case hw => rfl) | ((with_reducible refine stopg_clear ?hw ?_); case hw => rfl) | ((with_reducible refine stopg_arr ?hw ?_); case hw => rfl) | ((with_reducible refine stopg_idx ?hw ?_); case hw => rfl))
  refine wpl_want rfl (opw_box (c := e.kc) H rfl ?_)
  intro w1 b3 H1
  go_wp2_with (first | (with_reducible refine stop_box ?_) | (with_reducible refine stop_alloc ?_) | (with_reducible refine stop_load ?_) | (with_reducible refine stop_store ?_) | (with_reducible refine stop_make ?_) | (with_reducible refine stop_lit ?_) | (with_reducible refine stop_append ?_) | (with_reducible refine stop_copy ?_) | (with_reducible refine stop_map ?_) | (with_reducible refine stop_lookup ?_) | (with_reducible refine stop_update ?_) | (with_reducible refine stop_delete ?_) | (with_reducible refine stop_clear ?_) | (with_reducible refine stop_arr ?_) | (with_reducible refine stop_idx ?_) | ((with_reducible refine stopg_box ?hw ?_); case hw => rfl) | ((with_reducible refine stopg_alloc ?hw ?_); case hw => rfl) | ((with_reducible refine stopg_load ?hw ?_); case hw => rfl) | ((with_reducible refine stopg_store ?hw ?_); case hw => rfl) | ((with_reducible refine stopg_make ?hw ?_); case hw => rfl) | ((with_reducible refine stopg_lit ?hw ?_); case hw => rfl) | ((with_reducible refine stopg_append ?hw ?_); case hw => rfl) | ((with_reducible refine stopg_copy ?hw ?_); case hw => rfl) | ((with_reducible refine stopg_map ?hw ?_); case hw => rfl) | ((with_reducible refine stopg_lookup ?hw ?_); case hw => rfl) | ((with_reducible refine stopg_update ?hw ?_); case hw => rfl) | ((with_reducible refine stopg_delete ?hw ?_); case hw => rfl) | ((with_reducible refine stopg_clear ?hw ?_); case hw => rfl) | ((with_reducible refine stopg_arr ?hw ?_); case hw => rfl) | ((with_reducible refine stopg_idx ?hw ?_); case hw => rfl))
  refine wp_region_chain (n := 27) [5] (fun s v w' => DrC S w0 b m b3 o (.slice A L.length c) L R j e.kc s w') (regF [fun v _ => v = .pointer (some ⟨b, 0, none⟩), fun v _ => v = .pointer (some ⟨b, 0, none⟩), fun v _ => v = .pointer (some ⟨b, 0, none⟩), fun v _ => v = .map (some m), fun v _ => v = .agg e.kc.toArray, fun v w' => True]) [[], [(5, 0)], [(6, 1)], [(7, 2)], [], [(8, 3), (9, 4)]] [(5, 0), (6, 1), (7, 2), (8, 3), (9, 4)] (by kernel_rfl) (by kernel_rfl) rfl H1.drew ⟨?_, ?_, ?_, ?_, ?_, ?_, trivial⟩ ?_
  · intro s9 v9 vx w9 hs hv9 hC hF
    clear hF
    refine ⟨trivial, ?_⟩
    simp only [putsOf]
    exact opw_val (v := .pointer (some ⟨b, 0, none⟩)) (w' := w9) (by go_simp <;> (simp only [IntKind.wrap_u64, IntKind.wrap_i64] <;> omega)) ⟨_, rfl, by simp, (by rw [if_neg (by decide)]; exact hC), (fun _ _ h => h), rfl⟩
  · intro s9 v9 vx w9 hs hv9 hC hF
    have q0 : (vx 0) = .pointer (some ⟨b, 0, none⟩) := hF (5, 0) (by simp)
    clear hF
    refine ⟨trivial, ?_⟩
    simp only [putsOf, q0]
    exact opw_val (v := .pointer (some ⟨b, 0, none⟩)) (w' := w9) (by go_simp <;> (simp only [IntKind.wrap_u64, IntKind.wrap_i64] <;> omega)) ⟨_, rfl, by simp, (by rw [if_neg (by decide)]; exact hC), (fun _ _ h => h), rfl⟩
  · intro s9 v9 vx w9 hs hv9 hC hF
    have q1 : (vx 1) = .pointer (some ⟨b, 0, none⟩) := hF (6, 1) (by simp)
    clear hF
    refine ⟨trivial, ?_⟩
    simp only [putsOf, q1]
    exact opw_val (v := .pointer (some ⟨b, 0, none⟩)) (w' := w9) (by go_simp <;> (simp only [IntKind.wrap_u64, IntKind.wrap_i64] <;> omega)) ⟨_, rfl, by simp, (by rw [if_neg (by decide)]; exact hC), (fun _ _ h => h), rfl⟩
  · intro s9 v9 vx w9 hs hv9 hC hF
    have q2 : (vx 2) = .pointer (some ⟨b, 0, none⟩) := hF (7, 2) (by simp)
    clear hF
    refine ⟨trivial, ?_⟩
    simp only [putsOf, q2]
    obtain ⟨o9, H9⟩ := hC.st
    exact opw_load Try.underlying46 rfl rfl (H9.cell (k := 0) rfl 0) ⟨_, rfl, by simp, (by rw [if_neg (by decide)]; exact hC), (fun _ _ h => h), rfl⟩
  · intro s9 v9 vx w9 hs hv9 hC hF
    clear hF
    refine ⟨trivial, ?_⟩
    simp only [putsOf]
    obtain ⟨o9, H9⟩ := hC.st
    exact opw_loads (c := e.kc) Try.underlying51 rfl (by rw [ofSize, hkl.out]) rfl (Blk.sl0 (H9.blk (last_at _ _))) ⟨_, rfl, by simp, (by rw [if_neg (by decide)]; exact hC), (fun _ _ h => h), rfl⟩
  · intro s9 v9 vx w9 hs hv9 hC hF
    have q3 : (vx 3) = .map (some m) := hF (8, 3) (by simp)
    have q4 : (vx 4) = .agg e.kc.toArray := hF (9, 4) (by simp)
    clear hF
    obtain rfl : s9 = 0 := by have h9 := hs (by decide); rcases s9 with _ | _ | _ | _ | s9 <;> simp at h9 <;> rfl
    refine ⟨trivial, ?_⟩
    simp only [putsOf, q3, q4]
    have H9 : St S w0 (Sk b m o (.slice A L.length c) L ++ R ++ [.blk b3 51 e.kc]) w9 := hC
    obtain ⟨l9, hl9⟩ := flatOf.key e.kc (fits_kc (hG'.out.ok e hem.out).p (hG'.out.ok e hem.out).n)
    refine opw_delete (k := 1) flatOf.law Try.underlying46 H9 rfl hE'.out rfl rfl hl9 (mapE_keyed hG'.out) ?_ ?_
    · intro hno
      exact absurd rfl (hno (.agg e.kc.toArray, .agg (bys e.k).toArray) (List.mem_map.2 ⟨e, hem.out, rfl⟩))
    · intro i v9 w2 o2 hi hE2 H2
      obtain ⟨rfl, _⟩ := mapE_at hG'.out hj'.out hi
      exact ⟨undef, rfl, fun _ => rfl, (by rw [if_pos (by decide)]; exact ⟨o2, by rw [mapE_erase]; exact hE2, H2⟩), (fun _ _ h => regF_const (by simp [allConst, Const.eq, Const.true]) h), trivial⟩
  intro vx w9 hC hF
  have q0 : (vx 0) = .pointer (some ⟨b, 0, none⟩) := hF 0 (by simp)
  have q1 : (vx 1) = .pointer (some ⟨b, 0, none⟩) := hF 1 (by simp)
  have q2 : (vx 2) = .pointer (some ⟨b, 0, none⟩) := hF 2 (by simp)
  have q3 : (vx 3) = .map (some m) := hF 3 (by simp)
  have q4 : (vx 4) = .agg e.kc.toArray := hF 4 (by simp)
  clear hF
  simp only [putsOf, q0, q1, q2, q3, q4]
  simp only [Act.put, List.setIfInBounds_toArray, List.set_cons_succ, List.set_cons_zero]
  clear q0 q1 q2 q3 q4
  obtain ⟨o2, hE2, H2⟩ : ∃ o', MapOf o' (mapE (L.eraseIdx j)) ∧ St S w0 (Sk b m o' (.slice A L.length c) L ++ R ++ [Res.blk b3 51 e.kc]) w9 := hC
  have hE2' := Lib.hid hE2
  clear hE2 H1
  go_wp2_with (first | (with_reducible refine stop_box ?_) | (with_reducible refine stop_alloc ?_) | (with_reducible refine stop_load ?_) | (with_reducible refine stop_store ?_) | (with_reducible refine stop_make ?_) | (with_reducible refine stop_lit ?_) | (with_reducible refine stop_append ?_) | (with_reducible refine stop_copy ?_) | (with_reducible refine stop_map ?_) | (with_reducible refine stop_lookup ?_) | (with_reducible refine stop_update ?_) | (with_reducible refine stop_delete ?_) | (with_reducible refine stop_clear ?_) | (with_reducible refine stop_arr ?_) | (with_reducible refine stop_idx ?_) | ((with_reducible refine stopg_box ?hw ?_); case hw => rfl) | ((with_reducible refine stopg_alloc ?hw ?_); case hw => rfl) | ((with_reducible refine stopg_load ?hw ?_); case hw => rfl) | ((with_reducible refine stopg_store ?hw ?_); case hw => rfl) | ((with_reducible refine stopg_make ?hw ?_); case hw => rfl) | ((with_reducible refine stopg_lit ?hw ?_); case hw => rfl) | ((with_reducible refine stopg_append ?hw ?_); case hw => rfl) | ((with_reducible refine stopg_copy ?hw ?_); case hw => rfl) | ((with_reducible refine stopg_map ?hw ?_); case hw => rfl) | ((with_reducible refine stopg_lookup ?hw ?_); case hw => rfl) | ((with_reducible refine stopg_update ?hw ?_); case hw => rfl) | ((with_reducible refine stopg_delete ?hw ?_); case hw => rfl) | ((with_reducible refine stopg_clear ?hw ?_); case hw => rfl) | ((with_reducible refine stopg_arr ?hw ?_); case hw => rfl) | ((with_reducible refine stopg_idx ?hw ?_); case hw => rfl))
  refine wp_region_all (n := 27) (fun w' => St S w0 (Sk b m o2 (.slice A L.length c) L ++ R ++ [.blk b3 51 e.kc]) w') (regF [fun v _ => v = .pointer (some ⟨b, 0, none⟩), fun v _ => v = .pointer (some ⟨b, 0, none⟩), fun v _ => v = .pointer (some ⟨b, 1, none⟩), fun v _ => v = .slice A L.length c, fun v _ => v = .agg e.kc.toArray, fun v _ => v = .int .i64 j, fun v _ => v = .int .i64 j]) [[], [(10, 0)], [(11, 1)], [(12, 2)], [], [(13, 3), (14, 4)], [(15, 5), (10, 0), (11, 1), (12, 2), (13, 3), (14, 4)]] [(10, 0), (11, 1), (12, 2), (13, 3), (14, 4), (15, 5), (4, 6)] (by kernel_rfl) (by kernel_rfl) rfl H2.drew (regF_stable ⟨Stable.eq _, Stable.eq _, Stable.eq _, Stable.eq _, Stable.eq _, Stable.eq _, Stable.eq _, trivial⟩) ⟨?_, ?_, ?_, ?_, ?_, ?_, ?_, trivial⟩ ?_
  · intro vx w9 hC hF
    clear hF
    refine .inl ⟨trivial, ?_⟩
    simp only [putsOf]
    exact opw_val (v := .pointer (some ⟨b, 0, none⟩)) (w' := w9) (by go_simp <;> (simp only [IntKind.wrap_u64, IntKind.wrap_i64] <;> omega)) ⟨_, rfl, by simp, hC, (Kept.refl _ _), rfl⟩
  · intro vx w9 hC hF
    have q0 : (vx 0) = .pointer (some ⟨b, 0, none⟩) := hF (10, 0) (by simp)
    clear hF
    refine .inl ⟨trivial, ?_⟩
    simp only [putsOf, q0]
    exact opw_val (v := .pointer (some ⟨b, 0, none⟩)) (w' := w9) (by go_simp <;> (simp only [IntKind.wrap_u64, IntKind.wrap_i64] <;> omega)) ⟨_, rfl, by simp, hC, (Kept.refl _ _), rfl⟩
  · intro vx w9 hC hF
    have q1 : (vx 1) = .pointer (some ⟨b, 0, none⟩) := hF (11, 1) (by simp)
    clear hF
    refine .inl ⟨trivial, ?_⟩
    simp only [putsOf, q1]
    exact opw_val (v := .pointer (some ⟨b, 1, none⟩)) (w' := w9) (by go_simp <;> (simp only [IntKind.wrap_u64, IntKind.wrap_i64] <;> omega)) ⟨_, rfl, by simp, hC, (Kept.refl _ _), rfl⟩
  · intro vx w9 hC hF
    have q2 : (vx 2) = .pointer (some ⟨b, 1, none⟩) := hF (12, 2) (by simp)
    clear hF
    refine .inl ⟨trivial, ?_⟩
    simp only [putsOf, q2]
    exact opw_load Try.underlying47 rfl rfl (hC.cell (k := 0) rfl 1) ⟨_, rfl, by simp, hC, Kept.refl _ _, rfl⟩
  · intro vx w9 hC hF
    clear hF
    refine .inl ⟨trivial, ?_⟩
    simp only [putsOf]
    exact opw_loads (c := e.kc) Try.underlying51 rfl (by rw [ofSize, hkl.out]) rfl (Blk.sl0 (hC.blk (last_at _ _))) ⟨_, rfl, by simp, hC, Kept.refl _ _, rfl⟩
  · intro vx w9 hC hF
    have q3 : (vx 3) = .slice A L.length c := hF (13, 3) (by simp)
    have q4 : (vx 4) = .agg e.kc.toArray := hF (14, 4) (by simp)
    clear hF
    refine .inl ⟨trivial, ?_⟩
    simp only [putsOf, q3, q4]
    refine opw_call [.slice A L.length c, .agg e.kc.toArray] Try.func20 rfl (by kernel_rfl) rfl ?_
    refine (index_calls L j e hj'.out hG'.out hn A c w9 (Row.sl (hC.get (k := 2) rfl)) hc).mono ?_
    rintro r w1 ⟨rfl, h1⟩
    exact ⟨_, rfl, _, rfl, by simp, hC.keep h1, h1, rfl⟩
  · intro vx w9 hC hF
    have q5 : (vx 5) = .int .i64 j := hF (15, 5) (by simp)
    have q0 : (vx 0) = .pointer (some ⟨b, 0, none⟩) := hF (10, 0) (by simp)
    have q1 : (vx 1) = .pointer (some ⟨b, 0, none⟩) := hF (11, 1) (by simp)
    have q2 : (vx 2) = .pointer (some ⟨b, 1, none⟩) := hF (12, 2) (by simp)
    have q3 : (vx 3) = .slice A L.length c := hF (13, 3) (by simp)
    have q4 : (vx 4) = .agg e.kc.toArray := hF (14, 4) (by simp)
    clear hF
    refine .inl ⟨trivial, ?_⟩
    simp only [putsOf, q5, q0, q1, q2, q3, q4]
    exact opw_val (v := .int .i64 j) (w' := w9) (by go_simp <;> (simp only [IntKind.wrap_u64, IntKind.wrap_i64] <;> omega)) ⟨_, rfl, by simp, hC, (Kept.refl _ _), rfl⟩
  intro vx w9 hC hF
  have q0 : (vx 0) = .pointer (some ⟨b, 0, none⟩) := hF 0 (by simp)
  have q1 : (vx 1) = .pointer (some ⟨b, 0, none⟩) := hF 1 (by simp)
  have q2 : (vx 2) = .pointer (some ⟨b, 1, none⟩) := hF 2 (by simp)
  have q3 : (vx 3) = .slice A L.length c := hF 3 (by simp)
  have q4 : (vx 4) = .agg e.kc.toArray := hF 4 (by simp)
  have q5 : (vx 5) = .int .i64 j := hF 5 (by simp)
  have q6 : (vx 6) = .int .i64 j := hF 6 (by simp)
  clear hF
  simp only [putsOf, q0, q1, q2, q3, q4, q5, q6]
  simp only [Act.put, List.setIfInBounds_toArray, List.set_cons_succ, List.set_cons_zero]
  clear q0 q1 q2 q3 q4 q5 q6
  go_wp2_with (first | (with_reducible refine stop_box ?_) | (with_reducible refine stop_alloc ?_) | (with_reducible refine stop_load ?_) | (with_reducible refine stop_store ?_) | (with_reducible refine stop_make ?_) | (with_reducible refine stop_lit ?_) | (with_reducible refine stop_append ?_) | (with_reducible refine stop_copy ?_) | (with_reducible refine stop_map ?_) | (with_reducible refine stop_lookup ?_) | (with_reducible refine stop_update ?_) | (with_reducible refine stop_delete ?_) | (with_reducible refine stop_clear ?_) | (with_reducible refine stop_arr ?_) | (with_reducible refine stop_idx ?_) | ((with_reducible refine stopg_box ?hw ?_); case hw => rfl) | ((with_reducible refine stopg_alloc ?hw ?_); case hw => rfl) | ((with_reducible refine stopg_load ?hw ?_); case hw => rfl) | ((with_reducible refine stopg_store ?hw ?_); case hw => rfl) | ((with_reducible refine stopg_make ?hw ?_); case hw => rfl) | ((with_reducible refine stopg_lit ?hw ?_); case hw => rfl) | ((with_reducible refine stopg_append ?hw ?_); case hw => rfl) | ((with_reducible refine stopg_copy ?hw ?_); case hw => rfl) | ((with_reducible refine stopg_map ?hw ?_); case hw => rfl) | ((with_reducible refine stopg_lookup ?hw ?_); case hw => rfl) | ((with_reducible refine stopg_update ?hw ?_); case hw => rfl) | ((with_reducible refine stopg_delete ?hw ?_); case hw => rfl) | ((with_reducible refine stopg_clear ?hw ?_); case hw => rfl) | ((with_reducible refine stopg_arr ?hw ?_); case hw => rfl) | ((with_reducible refine stopg_idx ?hw ?_); case hw => rfl))
  refine wpl_want rfl (opw_load Try.underlying47 rfl rfl (hC.cell (k := 0) rfl 1) ?_)
  go_wp2_with (first | (with_reducible refine stop_box ?_) | (with_reducible refine stop_alloc ?_) | (with_reducible refine stop_load ?_) | (with_reducible refine stop_store ?_) | (with_reducible refine stop_make ?_) | (with_reducible refine stop_lit ?_) | (with_reducible refine stop_append ?_) | (with_reducible refine stop_copy ?_) | (with_reducible refine stop_map ?_) | (with_reducible refine stop_lookup ?_) | (with_reducible refine stop_update ?_) | (with_reducible refine stop_delete ?_) | (with_reducible refine stop_clear ?_) | (with_reducible refine stop_arr ?_) | (with_reducible refine stop_idx ?_) | ((with_reducible refine stopg_box ?hw ?_); case hw => rfl) | ((with_reducible refine stopg_alloc ?hw ?_); case hw => rfl) | ((with_reducible refine stopg_load ?hw ?_); case hw => rfl) | ((with_reducible refine stopg_store ?hw ?_); case hw => rfl) | ((with_reducible refine stopg_make ?hw ?_); case hw => rfl) | ((with_reducible refine stopg_lit ?hw ?_); case hw => rfl) | ((with_reducible refine stopg_append ?hw ?_); case hw => rfl) | ((with_reducible refine stopg_copy ?hw ?_); case hw => rfl) | ((with_reducible refine stopg_map ?hw ?_); case hw => rfl) | ((with_reducible refine stopg_lookup ?hw ?_); case hw => rfl) | ((with_reducible refine stopg_update ?hw ?_); case hw => rfl) | ((with_reducible refine stopg_delete ?hw ?_); case hw => rfl) | ((with_reducible refine stopg_clear ?hw ?_); case hw => rfl) | ((with_reducible refine stopg_arr ?hw ?_); case hw => rfl) | ((with_reducible refine stopg_idx ?hw ?_); case hw => rfl))
  refine (delete_calls j hC (q := 2) rfl hjl ordC_one).mono ?_
  rintro r w5 ⟨v5, rfl, H5⟩
  go_wp2_with (first | (with_reducible refine stop_box ?_) | (with_reducible refine stop_alloc ?_) | (with_reducible refine stop_load ?_) | (with_reducible refine stop_store ?_) | (with_reducible refine stop_make ?_) | (with_reducible refine stop_lit ?_) | (with_reducible refine stop_append ?_) | (with_reducible refine stop_copy ?_) | (with_reducible refine stop_map ?_) | (with_reducible refine stop_lookup ?_) | (with_reducible refine stop_update ?_) | (with_reducible refine stop_delete ?_) | (with_reducible refine stop_clear ?_) | (with_reducible refine stop_arr ?_) | (with_reducible refine stop_idx ?_) | ((with_reducible refine stopg_box ?hw ?_); case hw => rfl) | ((with_reducible refine stopg_alloc ?hw ?_); case hw => rfl) | ((with_reducible refine stopg_load ?hw ?_); case hw => rfl) | ((with_reducible refine stopg_store ?hw ?_); case hw => rfl) | ((with_reducible refine stopg_make ?hw ?_); case hw => rfl) | ((with_reducible refine stopg_lit ?hw ?_); case hw => rfl) | ((with_reducible refine stopg_append ?hw ?_); case hw => rfl) | ((with_reducible refine stopg_copy ?hw ?_); case hw => rfl) | ((with_reducible refine stopg_map ?hw ?_); case hw => rfl) | ((with_reducible refine stopg_lookup ?hw ?_); case hw => rfl) | ((with_reducible refine stopg_update ?hw ?_); case hw => rfl) | ((with_reducible refine stopg_delete ?hw ?_); case hw => rfl) | ((with_reducible refine stopg_clear ?hw ?_); case hw => rfl) | ((with_reducible refine stopg_arr ?hw ?_); case hw => rfl) | ((with_reducible refine stopg_idx ?hw ?_); case hw => rfl))
  obtain ⟨A5, c5, rfl, _⟩ := (H5.get (k := 2) rfl).slice
  refine wpl_want rfl (opw_store1 (k := 0) (.slice A5 (L.length - 1) c5) H5 rfl rfl rfl (by kernel_rfl) (by simp) rfl ?_)
  intro w6 H6
  go_wp2_with (first | (with_reducible refine stop_box ?_) | (with_reducible refine stop_alloc ?_) | (with_reducible refine stop_load ?_) | (with_reducible refine stop_store ?_) | (with_reducible refine stop_make ?_) | (with_reducible refine stop_lit ?_) | (with_reducible refine stop_append ?_) | (with_reducible refine stop_copy ?_) | (with_reducible refine stop_map ?_) | (with_reducible refine stop_lookup ?_) | (with_reducible refine stop_update ?_) | (with_reducible refine stop_delete ?_) | (with_reducible refine stop_clear ?_) | (with_reducible refine stop_arr ?_) | (with_reducible refine stop_idx ?_) | ((with_reducible refine stopg_box ?hw ?_); case hw => rfl) | ((with_reducible refine stopg_alloc ?hw ?_); case hw => rfl) | ((with_reducible refine stopg_load ?hw ?_); case hw => rfl) | ((with_reducible refine stopg_store ?hw ?_); case hw => rfl) | ((with_reducible refine stopg_make ?hw ?_); case hw => rfl) | ((with_reducible refine stopg_lit ?hw ?_); case hw => rfl) | ((with_reducible refine stopg_append ?hw ?_); case hw => rfl) | ((with_reducible refine stopg_copy ?hw ?_); case hw => rfl) | ((with_reducible refine stopg_map ?hw ?_); case hw => rfl) | ((with_reducible refine stopg_lookup ?hw ?_); case hw => rfl) | ((with_reducible refine stopg_update ?hw ?_); case hw => rfl) | ((with_reducible refine stopg_delete ?hw ?_); case hw => rfl) | ((with_reducible refine stopg_clear ?hw ?_); case hw => rfl) | ((with_reducible refine stopg_arr ?hw ?_); case hw => rfl) | ((with_reducible refine stopg_idx ?hw ?_); case hw => rfl))
  go_end0
  refine ⟨rfl, o2, .slice A5 (L.length - 1) c5, hE2'.out, ?_⟩
  have H7 : St S w0 (Sk b m o2 (.slice A5 (L.length - 1) c5) (L.eraseIdx j) ++ R ++ [Res.blk b3 51 e.kc]) w6 := by
    have e1 : (L.eraseIdx j).length = L.length - 1 := List.length_eraseIdx_of_lt hjl
    unfold Sk
    rw [e1, ordC_erase hG'.out.ok]
    exact H6
  exact H7.sub (List.sublist_append_left _ _)
end Go.Proofs.Ytngdppffcdhhlaa
