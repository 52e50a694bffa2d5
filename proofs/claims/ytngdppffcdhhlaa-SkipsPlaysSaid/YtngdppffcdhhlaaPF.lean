/- Arguments that are structs or arrays of whole numbers, read out of the row's own words. No condition. -/
import Derived.Test.YtngdppffcdhhlaaVO
import Derived.Test.YtngdppffcdhhlaaPK
import Derived.Test.YtngdppffcdhhlaaPG
namespace Go.PBYtngdppffcdhhlaa
open Go Go.RowKit Go.ChangeShapes Go.WideShapes Go.ChangeAt
set_option linter.unusedSimpArgs false
set_option linter.unusedVariables false

theorem Fits.parts {cs : List Value} {ks : List IntKind} (n : Nat) (h : Fits cs ks) : Fits (cs.take n) (ks.take n) ∧ Fits (cs.drop n) (ks.drop n) := by
  refine ⟨⟨by simp [h.1], fun i q hi => ?_⟩, ⟨by simp [h.1], fun i q hi => ?_⟩⟩
  · rw [List.getElem?_take] at hi ⊢
    split at hi
    · rename_i hl; rw [if_pos hl]; exact h.2 i q hi
    · cases hi
  · rw [List.getElem?_drop] at hi ⊢
    exact h.2 _ q hi
theorem Fits.split {cs : List Value} {k l : List IntKind} (h : Fits cs (k ++ l)) : ∃ a b, cs = a ++ b ∧ Fits a k ∧ Fits b l := by
  have h1 := h.parts k.length
  rw [List.take_left, List.drop_left] at h1
  exact ⟨_, _, (List.take_append_drop k.length cs).symm, h1.1, h1.2⟩
theorem Fits.bytes : ∀ {n : Nat} {cs : List Value}, Fits cs (List.replicate n .u8) → ∃ l : List UInt8, l.length = n ∧ cs = bys l
  | 0, cs, h => ⟨[], rfl, List.eq_nil_of_length_eq_zero (by simpa using h.1)⟩
  | n + 1, cs, h => by
    rw [List.replicate_succ] at h
    cases cs with
    | nil => have := h.1; simp at this
    | cons v cs =>
      have h0 := h.2 0 .u8 rfl
      obtain ⟨x, hx, hw⟩ := h0
      simp only [List.getElem?_cons_zero, Option.some.injEq] at hx
      subst hx
      have h1 := (h.parts 1).2
      obtain ⟨l, hl, rfl⟩ := Fits.bytes (n := n) (cs := cs) (by simpa using h1)
      refine ⟨UInt8.ofNat x.toNat :: l, by simp [hl], ?_⟩
      simp only [bys, List.map_cons]
      congr 2
      simp only [Lit.wf, Bool.and_eq_true, decide_eq_true_eq] at hw
      have h2 : IntKind.u8.min = 0 := rfl
      have h3 : IntKind.u8.max = 255 := rfl
      rw [h2, h3] at hw
      rw [UInt8.toNat_ofNat_of_lt' (by show x.toNat < 256; omega)]
      omega
theorem Fits.one {k : IntKind} {cs : List Value} (h : Fits cs [k]) : ∃ x, cs = [.int k x] ∧ (Lit.int k x).wf = true := by
  obtain ⟨x, hx, hw⟩ := h.2 0 k rfl
  have hl : cs.length = 1 := h.1
  cases cs with
  | nil => simp at hl
  | cons v r =>
    simp only [List.getElem?_cons_zero, Option.some.injEq] at hx
    subst hx
    cases r with
    | nil => exact ⟨x, rfl, hw⟩
    | cons u r => simp at hl
theorem wf_u32 {x : Int} (h : (Lit.int .u32 x).wf = true) : ∃ y : UInt32, Value.int .u32 x = vU32 y := by
  simp only [Lit.wf, Bool.and_eq_true, decide_eq_true_eq] at h
  have h2 : IntKind.u32.min = 0 := rfl
  have h3 : IntKind.u32.max = 4294967295 := rfl
  rw [h2, h3] at h
  refine ⟨UInt32.ofNat x.toNat, ?_⟩
  congr 1
  rw [UInt32.toNat_ofNat_of_lt' (by show x.toNat < 4294967296; omega)]
  omega
theorem wf_u8 {x : Int} (h : (Lit.int .u8 x).wf = true) : ∃ y : UInt8, Value.int .u8 x = vU8 y := by
  simp only [Lit.wf, Bool.and_eq_true, decide_eq_true_eq] at h
  have h2 : IntKind.u8.min = 0 := rfl
  have h3 : IntKind.u8.max = 255 := rfl
  rw [h2, h3] at h
  refine ⟨UInt8.ofNat x.toNat, ?_⟩
  congr 1
  rw [UInt8.toNat_ofNat_of_lt' (by show x.toNat < 256; omega)]
  omega
theorem wf_i64 {x : Int} (h : (Lit.int .i64 x).wf = true) : -9223372036854775808 ≤ x ∧ x ≤ 9223372036854775807 := by
  simp only [Lit.wf, Bool.and_eq_true, decide_eq_true_eq] at h
  have h2 : IntKind.i64.min = -9223372036854775808 := rfl
  have h3 : IntKind.i64.max = 9223372036854775807 := rfl
  rw [h2, h3] at h
  exact h
section
variable {P : Program} {n : Nat} {S : List Nat} {w0 : World} {env : Env} {L : List Res}
variable {d : Tmp} {ty : TypeId} {pos : String} {af : Array Edge} {g : Option (Nat × Bool)}
/-- arrays or structs of whole numbers that are the same -/
theorem q_eqR {T T' : TypeId} {x y : Operand} {ks : List IntKind} {c c' : List Value} {r : Bool} (hF : Flat P T ks) (hx : evalE env x = some (.agg c.toArray)) (hy : evalE env y = some (.agg c'.toArray)) (f1 : Fits c ks) (f2 : Fits c' ks) (hr : r = true ↔ c = c') :
    QT P n S w0 { dst := some d, op := .binOp .eql T x y T', type := ty, pos, after := af, guard := g } env L (.val (.bool r)) :=
  ⟨fun a w hm H => opw_eqA hF (hm.eval hx) (hm.eval hy) f1 f2 hr ⟨_, rfl, fun h => by simp at h, rfl, St.refl w⟩⟩
theorem q_neR {T T' : TypeId} {x y : Operand} {ks : List IntKind} {c c' : List Value} {r : Bool} (hF : Flat P T ks) (hx : evalE env x = some (.agg c.toArray)) (hy : evalE env y = some (.agg c'.toArray)) (f1 : Fits c ks) (f2 : Fits c' ks) (hr : r = true ↔ c = c') :
    QT P n S w0 { dst := some d, op := .binOp .neq T x y T', type := ty, pos, after := af, guard := g } env L (.val (.bool !r)) :=
  ⟨fun a w hm H => opw_neA hF (hm.eval hx) (hm.eval hy) f1 f2 hr ⟨_, rfl, fun h => by simp at h, rfl, St.refl w⟩⟩
theorem q_eqT {T T' : TypeId} {x y : Operand} {ks : List IntKind} {c c' : List Value} (hF : Flat P T ks) (hx : evalE env x = some (.agg c.toArray)) (hy : evalE env y = some (.agg c'.toArray)) (f1 : Fits c ks) (h : c = c') :
    QT P n S w0 { dst := some d, op := .binOp .eql T x y T', type := ty, pos, after := af, guard := g } env L (.val (.bool true)) :=
  q_eqR hF hx hy f1 (h ▸ f1) ⟨fun _ => h, fun _ => rfl⟩
theorem bys_inj' : ∀ {a b : List UInt8}, bys a = bys b → a = b
  | [], [], _ => rfl
  | [], _ :: _, h => by simp [bys] at h
  | _ :: _, [], h => by simp [bys] at h
  | x :: a, y :: b, h => by
    simp only [bys, List.map_cons, List.cons.injEq, Value.int.injEq, true_and] at h
    have h1 : x = y := UInt8.toNat_inj.1 (by omega)
    rw [h1, bys_inj' (show bys a = bys b from h.2)]
theorem q_eqB {T T' : TypeId} {x y : Operand} {ks : List IntKind} {l m : List UInt8} (hF : Flat P T ks) (hx : evalE env x = some (.agg (bys l).toArray)) (hy : evalE env y = some (.agg (bys m).toArray)) (f1 : Fits (bys l) ks) (f2 : Fits (bys m) ks) :
    QT P n S w0 { dst := some d, op := .binOp .eql T x y T', type := ty, pos, after := af, guard := g } env L (.val (.bool (decide (l = m)))) :=
  q_eqR hF hx hy f1 f2 (by rw [decide_eq_true_iff]; exact ⟨fun h => by rw [h], bys_inj'⟩)
theorem q_neB {T T' : TypeId} {x y : Operand} {ks : List IntKind} {l m : List UInt8} (hF : Flat P T ks) (hx : evalE env x = some (.agg (bys l).toArray)) (hy : evalE env y = some (.agg (bys m).toArray)) (f1 : Fits (bys l) ks) (f2 : Fits (bys m) ks) :
    QT P n S w0 { dst := some d, op := .binOp .neq T x y T', type := ty, pos, after := af, guard := g } env L (.val (.bool (!decide (l = m)))) :=
  q_neR hF hx hy f1 f2 (by rw [decide_eq_true_iff]; exact ⟨fun h => by rw [h], bys_inj'⟩)
theorem fits_bys' {l : List UInt8} {n : Nat} (h : l.length = n) : Fits (bys l) (List.replicate n .u8) := h ▸ fits_bys l
end
section
variable {H : Type} {enc : TypeId × Value → H} {P : Program} {w : World} {r : Reach} {b0 base : Nat} {spare : Nat → Bool} {held : Bool}
theorem trod_int1 {t : TypeId} {k : IntKind} {cs : List Value} {fuel : Nat} {x : DataW H × List MemPlace} (hu : P.underlying t = some (.int k)) (h : DataW.trod enc P w base spare held fuel t cs = some x) : Fits cs [k] := by
  obtain ⟨n, rfl, _, hw⟩ := DataW.trod_int hu h
  exact fits_int hw
theorem fits_mapM {f : Nat → Option (DataW H × List MemPlace)} {cs : List Value} {ks : List IntKind} (n : Nat) (m : Nat) (hm : ks.length = m) (hl : cs.length = n * m) (hf : ∀ i, i < n → ∀ y, f i = some y → Fits ((cs.drop (i * m)).take m) ks) {x : List (DataW H × List MemPlace)} (h : (List.range n).mapM f = some x) : Fits cs (List.replicate n ks).flatten := by
  have hall : ∀ i, i < n → ∃ y, f i = some y := by
    intro i hi
    have key : ∀ (l : List Nat) (x : List (DataW H × List MemPlace)), l.mapM f = some x → ∀ i ∈ l, ∃ y, f i = some y := by
      intro l
      induction l with
      | nil => intro x _ i hi; cases hi
      | cons a l ih =>
        intro x h i hi
        rw [List.mapM_cons] at h
        cases ha : f a with
        | none => rw [ha] at h; simp at h
        | some y =>
          rw [ha] at h
          simp only [Option.pure_def, Option.bind_eq_bind, Option.bind_some] at h
          cases hr : l.mapM f with
          | none => rw [hr] at h; simp at h
          | some z =>
            rcases List.mem_cons.1 hi with rfl | hi
            · exact ⟨y, ha⟩
            · exact ih z hr i hi
    exact key _ _ h i (List.mem_range.2 hi)
  have key : ∀ (n : Nat) (cs : List Value), cs.length = n * m → (∀ i, i < n → Fits ((cs.drop (i * m)).take m) ks) → Fits cs (List.replicate n ks).flatten := by
    intro n
    induction n with
    | zero => intro cs hl _; simp at hl; subst hl; exact ⟨rfl, fun i q hi => by simp at hi⟩
    | succ n ih =>
      intro cs hl hf
      have h0 := hf 0 (by omega)
      rw [Nat.zero_mul, List.drop_zero] at h0
      have hr := ih (cs.drop m) (by rw [List.length_drop, hl, Nat.succ_mul]; omega) (fun i hi => by
        have := hf (i + 1) (by omega)
        rw [List.drop_drop, show m + i * m = (i + 1) * m by rw [Nat.succ_mul]; omega]
        exact this)
      rw [List.replicate_succ, List.flatten_cons]
      have := h0.append hr
      rwa [List.take_append_drop] at this
  exact key n cs hl (fun i hi => by obtain ⟨y, hy⟩ := hall i hi; exact hf i hi y hy)
theorem trod_fits : ∀ (m : Nat) (t : TypeId) (ks : List IntKind), flatAt P m t = some ks → ∀ (fuel : Nat) (cs : List Value) (x : DataW H × List MemPlace), DataW.trod enc P w base spare held fuel t cs = some x → Fits cs ks
  | 0, t, ks, h, _, _, _, _ => by simp [flatAt] at h
  | m + 1, t, ks, h, 0, cs, x, hx => by simp [DataW.trod] at hx
  | m + 1, t, ks, h, fuel + 1, cs, x, hx => by
    unfold flatAt at h
    split at h
    · rename_i q hu
      simp only [Option.some.injEq] at h
      subst h
      exact trod_int1 hu hx
    · rename_i n e hu
      split at h
      · cases h
      · rename_i ks' he
        split at h
        · rename_i hc
          simp only [Option.some.injEq] at h
          subst h
          unfold DataW.trod at hx
          rw [hu] at hx
          simp only at hx
          split at hx
          · rename_i hl
            cases hm : ((List.range n).mapM fun i => DataW.trod enc P w base spare held fuel e ((cs.drop (i * P.cellsOf e)).take (P.cellsOf e))) with
            | none => rw [hm] at hx; simp at hx
            | some y =>
              refine fits_mapM n ks'.length rfl (by rw [hl, hc.2]) (fun i hi z hz => ?_) hm
              rw [← hc.1]
              exact trod_fits m e ks' he fuel _ z hz
          · cases hx
        · cases h
    · rename_i fs hu
      split at h
      · cases h
      · rename_i ks' hfs
        split at h
        · rename_i hc
          simp only [Option.some.injEq] at h
          subst h
          unfold DataW.trod at hx
          rw [hu] at hx
          simp only at hx
          split at hx
          · rename_i hl
            cases hm : (fs.toList.mapM fun f => DataW.trod enc P w base spare held fuel f.type ((cs.drop f.offset).take (P.cellsOf f.type))) with
            | none => rw [hm] at hx; simp at hx
            | some y =>
              have key : ∀ (l : List Field) (off : Nat) (ks : List IntKind) (y : List (DataW H × List MemPlace)), flatFields P (flatAt P m) l off = some ks → (l.mapM fun f => DataW.trod enc P w base spare held fuel f.type ((cs.drop f.offset).take (P.cellsOf f.type))) = some y → cs.length = off + ks.length → Fits (cs.drop off) ks := by
                intro l
                induction l with
                | nil =>
                  intro off ks y h1 _ h3
                  simp only [flatFields, Option.some.injEq] at h1
                  subst h1
                  rw [List.drop_eq_nil_of_le (by simp at h3; omega)]
                  exact ⟨rfl, fun i q hi => by simp at hi⟩
                | cons f l ih =>
                  intro off ks y h1 h2 h3
                  simp only [flatFields] at h1
                  rw [List.mapM_cons] at h2
                  cases hf : DataW.trod enc P w base spare held fuel f.type ((cs.drop f.offset).take (P.cellsOf f.type)) with
                  | none => rw [hf] at h2; simp at h2
                  | some z =>
                    rw [hf] at h2
                    simp only [Option.pure_def, Option.bind_eq_bind, Option.bind_some] at h2
                    cases hr : (l.mapM fun f => DataW.trod enc P w base spare held fuel f.type ((cs.drop f.offset).take (P.cellsOf f.type))) with
                    | none => rw [hr] at h2; simp at h2
                    | some z' =>
                      cases hk : flatAt P m f.type with
                      | none => rw [hk] at h1; simp at h1
                      | some kf =>
                        rw [hk] at h1
                        simp only at h1
                        split at h1
                        · rename_i hc2
                          cases hrest : flatFields P (flatAt P m) l (off + kf.length) with
                          | none => rw [hrest] at h1; simp at h1
                          | some kr =>
                            rw [hrest] at h1
                            simp only [Option.map_some, Option.some.injEq] at h1
                            subst h1
                            have hz := trod_fits m f.type kf hk fuel _ z hf
                            rw [hc2.1, hc2.2.1] at hz
                            have h4 := ih (off + kf.length) kr z' hrest hr (by rw [h3, List.length_append]; omega)
                            have h5 := hz.append h4
                            rw [← List.drop_drop] at h5
                            rwa [List.take_append_drop] at h5
                        · cases h1
              have := key fs.toList 0 ks' y hfs hm (by rw [hl, hc]; omega)
              simpa using this
          · cases hx
        · cases h
    · cases h
theorem open_flat {t : TypeId} {v : Value} {d : DataW H} {p : List MemPlace} {ks : List IntKind} (m : Nat) (hf : flatAt P m t = some ks) (hs : (match P.underlying t with | some (.array _ _) | some (.struct _) => true | _ => false) = true)
    (hv : Value.okWide P w r b0 t v) (h : DataW.Trod enc P w 0 (fun _ => true) true t v d p) : ∃ cs, v = .agg cs.toArray ∧ Fits cs ks := by
  have hagg : ∃ cs : Array Value, v = .agg cs := by
    unfold Value.okWide at hv
    split at hv
    · obtain ⟨cs, h1, _⟩ := hv; exact ⟨cs, h1⟩
    · obtain ⟨cs, h1, _⟩ := hv; exact ⟨cs, h1⟩
    · rename_i h1 h2; revert hs; split
      · rename_i a b e; exact absurd e (h2 a b)
      · rename_i a e; exact absurd e (h1 a)
      · simp
  obtain ⟨cs, rfl⟩ := hagg
  obtain ⟨fuel, h⟩ := h
  exact ⟨cs.toList, by simp, trod_fits m t ks hf fuel _ _ h⟩
end
end Go.PBYtngdppffcdhhlaa
