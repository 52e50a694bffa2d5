/- Chapter 11: calls as arguments; what a store keeps behind many calls; a store's hidden parts as a value. No condition. -/
import Derived.Test.YtngdppffcdhhlaaC11e
import Derived.Test.YtngdppffcdhhlaaPS2
import Derived.Test.YtngdppffcdhhlaaV12b
import Derived.Test.YtngdppffcdhhlaaS11c
namespace Go.Proofs.Ytngdppffcdhhlaa
open Go Go.RowKit Go.PBYtngdppffcdhhlaa
set_option linter.unusedVariables false
set_option linter.unusedSimpArgs false

/-- a call of a script -/
structure OpD where
  d : Int
  p : List UInt8
  n : Int
  k : List UInt8
structure OpD.ok (x : OpD) : Prop where
  p : x.p.length = 32
  k : x.k.length = 32
  d : (Lit.int .i64 x.d).wf = true
  n : (Lit.int .i64 x.n).wf = true
def OpD.cells (x : OpD) : List Value := [.int .i64 x.d] ++ (bys x.p ++ ([.int .i64 x.n] ++ bys x.k))
def OpD.ent (x : OpD) : Ent := ⟨x.p, x.n, x.k⟩
theorem OpD.ent_ok {x : OpD} (h : x.ok) : x.ent.ok := ⟨h.p, h.k, h.n⟩
abbrev opKinds : List IntKind := [.i64] ++ (List.replicate 32 .u8 ++ ([.i64] ++ List.replicate 32 .u8))
theorem open_op {cs : List Value} (h : Fits cs opKinds) : ∃ x : OpD, x.ok ∧ cs = x.cells := by
  obtain ⟨a, r, rfl, fa, fr⟩ := Fits.split (k := [.i64]) h
  obtain ⟨b, s, rfl, fb, fs⟩ := Fits.split (k := List.replicate 32 .u8) fr
  obtain ⟨c, e, rfl, fc, fe⟩ := Fits.split (k := [.i64]) fs
  obtain ⟨d, rfl, hd⟩ := fa.one
  obtain ⟨p, hp, rfl⟩ := fb.bytes
  obtain ⟨n, rfl, hn⟩ := fc.one
  obtain ⟨k, hk, rfl⟩ := fe.bytes
  exact ⟨⟨d, p, n, k⟩, ⟨hp, hk, hd, hn⟩, rfl⟩
structure OpF (cs : List Value) (x : OpD) : Prop where
  len : cs.length = 66
  g0 : cs[0]? = some (.int .i64 x.d)
  g1 : (cs.drop 1).take 32 = bys x.p
  g2 : cs[33]? = some (.int .i64 x.n)
  g3 : (cs.drop 34).take 32 = bys x.k
theorem op_f {x : OpD} (h : x.ok) : OpF x.cells x := by
  have lp : (bys x.p).length = 32 := by rw [bys_length, h.p]
  have lk : (bys x.k).length = 32 := by rw [bys_length, h.k]
  refine ⟨?_, rfl, ?_, ?_, ?_⟩
  · simp only [OpD.cells, List.length_append, lp, lk, List.length_cons, List.length_nil]
  · show (bys x.p ++ ([Value.int .i64 x.n] ++ bys x.k)).take 32 = _
    rw [List.take_left' lp]
  · show (bys x.p ++ ([Value.int .i64 x.n] ++ bys x.k))[32]? = _
    rw [List.getElem?_append_right (by omega), lp]
    rfl
  · show ((bys x.p ++ ([Value.int .i64 x.n] ++ bys x.k)).drop 33).take 32 = _
    rw [show (33 : Nat) = 32 + 1 from rfl, ← List.drop_drop, List.drop_left' lp]
    show (bys x.k).take 32 = _
    exact List.take_of_length_le (by omega)
/-- calls as an argument -/
def opsL (xs : List OpD) : List Value := (xs.map OpD.cells).flatten
def OpsV (w : World) (v : Value) (xs : List OpD) : Prop := ∃ A c, v = .slice A xs.length c ∧ xs.length ≤ c ∧ SlAt w A (opsL xs) ∧ ∀ x ∈ xs, x.ok
theorem ops_of : ∀ (vs : List (List Value)), (∀ u ∈ vs, Fits u opKinds) → ∃ xs : List OpD, vs = xs.map OpD.cells ∧ ∀ x ∈ xs, x.ok
  | [], _ => ⟨[], rfl, by simp⟩
  | v :: r, h => by
    obtain ⟨x, hx, rfl⟩ := open_op (h v (by simp))
    obtain ⟨xs, rfl, hxs⟩ := ops_of r (fun u hu => h u (by simp [hu]))
    exact ⟨x :: xs, rfl, by intro y hy; exact (List.mem_cons.1 hy).elim (fun h => h ▸ hx) (fun h => hxs y h)⟩
section
variable {xs : List OpD} {j : Nat} {x : OpD}
theorem ops_all (h : ∀ x ∈ xs, x.ok) : ∀ u ∈ xs.map OpD.cells, u.length = 66 := by
  intro u hu
  obtain ⟨x, hx, rfl⟩ := List.mem_map.1 hu
  exact (op_f (h x hx)).len
theorem opsL_length (h : ∀ x ∈ xs, x.ok) : (opsL xs).length = xs.length * 66 := by
  unfold opsL
  rw [flatten_length _ (ops_all h), List.length_map]
theorem opsL_part (h : ∀ x ∈ xs, x.ok) (hj : xs[j]? = some x) : ((opsL xs).drop (j * 66)).take 66 = x.cells := by
  have hl := (List.getElem?_eq_some_iff.1 hj).1
  have := flatten_part (sz := 66) (xs.map OpD.cells) j (ops_all h) (by simpa using hl)
  unfold opsL
  rw [this, List.getD_eq_getElem?_getD, List.getElem?_map, hj]
  rfl
theorem part_in {l c : List Value} {a i m : Nat} {k : List Value} (h : (l.drop a).take 66 = c) (hk : (c.drop i).take m = k) (hm : i + m ≤ 66) : (l.drop (a + i)).take m = k := by
  rw [← h, List.drop_take, List.take_take, List.drop_drop, Nat.min_eq_left (by omega)] at hk
  exact hk
theorem get_in {l c : List Value} {a i : Nat} {v : Value} (h : (l.drop a).take 66 = c) (hk : c[i]? = some v) (hi : i < 66) : l[a + i]? = some v := by
  rw [← h, List.getElem?_take, if_pos hi, List.getElem?_drop] at hk
  exact hk
end
/-- what is kept behind so many puts, takes, or both -/
def putAll (xs : List OpD) (L : List Ent) : List Ent := xs.foldl (fun L x => (putR L x.ent).2) L
def takeAll (xs : List OpD) (L : List Ent) : List Ent := xs.foldl (fun L x => takeR L x.ent.key) L
def bothAll (xs : List OpD) (L : List Ent) : List Ent := xs.foldl (fun L x => if x.d = 2 then takeR L x.ent.key else (putR L x.ent).2) L
theorem foldl_snocN {α β : Type} (f : β → α → β) (a : β) (l : List α) (x : α) : List.foldl f a (l ++ [x]) = f (List.foldl f a l) x := by rw [List.foldl_append]; rfl
theorem take_snoc {α : Type} {xs : List α} {j : Nat} {x : α} (h : xs[j]? = some x) : xs.take (j + 1) = xs.take j ++ [x] := by rw [List.take_add_one, h]; rfl
theorem putAll_snoc (xs : List OpD) (x : OpD) (L : List Ent) : putAll (xs ++ [x]) L = (putR (putAll xs L) x.ent).2 := foldl_snocN _ _ _ _
theorem takeAll_snoc (xs : List OpD) (x : OpD) (L : List Ent) : takeAll (xs ++ [x]) L = takeR (takeAll xs L) x.ent.key := foldl_snocN _ _ _ _
theorem bothAll_snoc (xs : List OpD) (x : OpD) (L : List Ent) : bothAll (xs ++ [x]) L = if x.d = 2 then takeR (bothAll xs L) x.ent.key else (putR (bothAll xs L) x.ent).2 := foldl_snocN _ _ _ _
def Kp (L : List Ent) : Prop := GoodL L ∧ L.length ≤ 8
theorem Kp.put {L : List Ent} {e : Ent} (h : Kp L) (he : e.ok) : Kp (putR L e).2 := ⟨putR_good h.1 he, putR_length h.2⟩
theorem Kp.take {L : List Ent} (h : Kp L) (z : List UInt8 × Int) : Kp (takeR L z) := ⟨takeR_good h.1 z, Nat.le_trans (takeR_sub L z).length_le h.2⟩
theorem Kp.fold {f : List Ent → OpD → List Ent} (hf : ∀ L x, Kp L → x.ok → Kp (f L x)) : ∀ (xs : List OpD) (L : List Ent), Kp L → (∀ x ∈ xs, x.ok) → Kp (xs.foldl f L)
  | [], L, h, _ => h
  | x :: r, L, h, hx => Kp.fold hf r _ (hf L x h (hx x (by simp))) (fun y hy => hx y (by simp [hy]))
theorem putAll_kp {xs : List OpD} {L : List Ent} (h : Kp L) (hx : ∀ x ∈ xs, x.ok) : Kp (putAll xs L) := Kp.fold (fun L x h hx => h.put (OpD.ent_ok hx)) xs L h hx
theorem takeAll_kp {xs : List OpD} {L : List Ent} (h : Kp L) (hx : ∀ x ∈ xs, x.ok) : Kp (takeAll xs L) := Kp.fold (fun L x h hx => h.take _) xs L h hx
theorem bothAll_kp {xs : List OpD} {L : List Ent} (h : Kp L) (hx : ∀ x ∈ xs, x.ok) : Kp (bothAll xs L) := Kp.fold (fun L x h hx => by
  show Kp (if x.d = 2 then takeR L x.ent.key else (putR L x.ent).2)
  split
  · exact h.take _
  · exact h.put (OpD.ent_ok hx)) xs L h hx
theorem ok_take {xs : List OpD} (h : ∀ x ∈ xs, x.ok) (j : Nat) : ∀ x ∈ xs.take j, x.ok := fun x hx => h x (List.mem_of_mem_take hx)
/-- all that was put is taken -/
theorem takeR_key {L : List Ent} {e : Ent} {z : List UInt8 × Int} (h : e ∈ takeR L z) : e ∈ L := (takeR_sub L z).subset h
theorem takeAll_sub : ∀ (xs : List OpD) (L : List Ent), ∀ e ∈ takeAll xs L, e ∈ L
  | [], L, e, h => h
  | x :: r, L, e, h => takeR_key (takeAll_sub r (takeR L x.ent.key) e h)
theorem takeAll_no {L : List Ent} (hG : GoodL L) : ∀ (xs : List OpD), ∀ x ∈ xs, ∀ e ∈ takeAll xs L, e.key ≠ x.ent.key := by
  intro xs
  induction xs generalizing L with
  | nil => intro x hx; simp at hx
  | cons y r ih =>
    intro x hx e he hk
    have h1 : takeAll (y :: r) L = takeAll r (takeR L y.ent.key) := rfl
    rw [h1] at he
    rcases List.mem_cons.1 hx with rfl | hx
    · have h2 := takeAll_sub r _ e he
      exact takeR_no hG x.ent.key (List.mem_map.2 ⟨e, h2, hk⟩)
    · exact ih (takeR_good hG _) x hx e he hk
theorem putR_from {L : List Ent} {e f : Ent} (h : f ∈ (putR L e).2) : f ∈ L ∨ f = e := by
  unfold putR at h
  split at h
  · exact .inl h
  · split at h
    · exact .inl h
    · rcases List.mem_append.1 (List.mem_of_mem_drop h) with h | h
      · exact .inl h
      · exact .inr (List.mem_singleton.1 h)
theorem putAll_from : ∀ (xs : List OpD) (L : List Ent), ∀ f ∈ putAll xs L, f ∈ L ∨ ∃ x ∈ xs, f = x.ent
  | [], L, f, h => .inl h
  | x :: r, L, f, h => by
    rcases putAll_from r _ f h with h | ⟨y, hy, he⟩
    · rcases putR_from h with h | h
      · exact .inl h
      · exact .inr ⟨x, by simp, h⟩
    · exact .inr ⟨y, by simp [hy], he⟩
theorem take_put {xs : List OpD} (hx : ∀ x ∈ xs, x.ok) : takeAll xs (putAll xs []) = [] := by
  have hK := putAll_kp (L := []) ⟨⟨by simp, by simp⟩, by simp⟩ hx
  refine List.eq_nil_iff_forall_not_mem.2 fun e he => ?_
  rcases putAll_from xs [] e (takeAll_sub _ _ e he) with h | ⟨x, hxm, rfl⟩
  · simp at h
  · exact takeAll_no hK.1 xs x hxm _ he rfl
/-! ### a store's hidden parts as a value -/
def decB : List Ent → List Value → List MapEntry
  | e :: r, .int _ b :: s => ⟨.agg e.kc.toArray, .agg (bys e.k).toArray, b.toNat⟩ :: decB r s
  | _, _ => []
def decS (L : List Ent) : Value → Obj × Option Addr × Nat
  | .agg cs => match cs.toList with
    | .slice A _ c :: .int _ k :: s => (.map (decB L s).toArray k.toNat, A, c)
    | _ => (.map #[] 0, none, 0)
  | _ => (.map #[] 0, none, 0)
theorem decB_of : ∀ (L : List Ent) (es : List MapEntry), es.map (fun e => (e.key, e.val)) = mapE L → decB L (es.map fun e => Value.int .i64 (e.born : Int)) = es
  | [], [], _ => rfl
  | [], _ :: _, h => by simp [mapE] at h
  | _ :: _, [], h => by simp [mapE] at h
  | e :: L, m :: es, h => by
    simp only [mapE, List.map_cons, List.cons.injEq, Prod.mk.injEq] at h
    simp only [List.map_cons, decB, Int.toNat_natCast]
    rw [decB_of L es h.2, ← h.1.1, ← h.1.2]
theorem sk_ghost {o : Obj} {A : Option Addr} {c : Nat} {L : List Ent} (h : MapOf o (mapE L)) : ∃ g : Value, decS L g = (o, A, c) := by
  obtain ⟨es, k, rfl, hE⟩ := h
  refine ⟨.agg (Value.slice A 0 c :: Value.int .i64 (k : Int) :: es.toList.map fun e => Value.int .i64 (e.born : Int)).toArray, ?_⟩
  simp only [decS, Int.toNat_natCast]
  rw [decB_of L es.toList hE]
end Go.Proofs.Ytngdppffcdhhlaa
