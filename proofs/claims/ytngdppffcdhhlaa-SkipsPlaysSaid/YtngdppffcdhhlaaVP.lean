/- A region that leaves its order open, where operations may write: each takes what it writes, and gives it back as it is behind; the others look on at what nobody takes before them. No condition. -/
import Derived.Test.YtngdppffcdhhlaaVX
namespace Go.PBYtngdppffcdhhlaa
open Go Go.RowKit
set_option linter.unusedSimpArgs false
set_option linter.unusedVariables false

abbrev Xs := Nat → Value
/-- what an operation comes to: a value; or any value, with a word of its own besides, of which a fact holds, and that own these -/
inductive PS where
  | val (f : Xs → Xs → Value)
  | any (F : Xs → Xs → Value → Value → Prop) (N : Xs → Xs → Value → Value → List Res)
def PS.fact : PS → Xs → Xs → Value → Value → Prop
  | .val f, xs, gs, v, _ => v = f xs gs
  | .any F _, xs, gs, v, g => F xs gs v g
def PS.cur : PS → Xs → Xs → Value → Value
  | .val f, xs, gs, _ => f xs gs
  | .any _ _, _, _, v => v
def PS.own : PS → Xs → Xs → Value → Value → List Res
  | .val _, _, _, _, _ => []
  | .any _ N, xs, gs, v, g => N xs gs v g
theorem PS.cur_eq {s : PS} {xs gs : Xs} {v g : Value} (h : s.fact xs gs v g) : s.cur xs gs v = v := by
  cases s with
  | val f => exact h.symm
  | any F N => rfl
def psAt : List PS → Nat → PS
  | [], _ => .val fun _ _ => undef
  | s :: r, k => match k with | 0 => s | k + 1 => psAt r k
def lAt : List (List Nat) → Nat → List Nat
  | [], _ => []
  | c :: r, k => match k with | 0 => c | k + 1 => lAt r k
def factP (sp : List PS) (Cs : List (List Nat)) (xs gs : Xs) (j : Nat) : Prop := (psAt sp j).fact (mask (lAt Cs j) xs) (mask (lAt Cs j) gs) (xs j) (gs j)
def curP (sp : List PS) (Cs : List (List Nat)) (xs gs : Xs) (j : Nat) : Value := (psAt sp j).cur (mask (lAt Cs j) xs) (mask (lAt Cs j) gs) (xs j)
def ownP (sp : List PS) (Cs : List (List Nat)) (xs gs : Xs) (j : Nat) : List Res := (psAt sp j).own (mask (lAt Cs j) xs) (mask (lAt Cs j) gs) (xs j) (gs j)
/-- those of what is owned at first -/
def selI (q : Nat → Bool) : Nat → List Res → List Res
  | _, [] => []
  | k, r :: L => match q k with | true => r :: selI q (k + 1) L | false => selI q (k + 1) L
/-- those of what the operations own -/
def selO (q : Nat → Bool) (ow : Nat → List Res) : Nat → Nat → List Res
  | _, 0 => []
  | k, m + 1 => match q k with | true => ow k ++ selO q ow (k + 1) m | false => selO q ow (k + 1) m
def takenB (T : List (List Nat)) (m : Nat) (D : Nat → Bool) (k : Nat) : Bool := (List.range m).any fun i => D i && (lAt T i).contains k
/-- nobody takes k before operation i is done, and operation i does not take it -/
def waitsB (T Cs : List (List Nat)) (m i k : Nat) : Bool := (List.range m).all fun i' => !(lAt T i').contains k || (lAt Cs i').contains i
def takesOk (m : Nat) (Cs TI TO : List (List Nat)) : Bool :=
  (List.range m).all fun i => ((lAt TO i).all fun j => (lAt Cs i).contains j) && ((lAt Cs i).all fun j => (lAt Cs j).all fun k => (lAt Cs i).contains k) &&
    (List.range m).all fun i' => i == i' || (((lAt TI i).all fun k => !(lAt TI i').contains k) && ((lAt TO i).all fun k => !(lAt TO i').contains k))

theorem selI_split {q a b : Nat → Bool} (h : ∀ k, q k = (a k || b k)) (hd : ∀ k, a k = true → b k = false) : ∀ (L : List Res) (k : Nat), (selI q k L).Perm (selI a k L ++ selI b k L)
  | [], k => .nil
  | r :: L, k => by
    have ih := selI_split h hd L (k + 1)
    unfold selI
    rw [h k]
    cases ha : a k with
    | true => rw [hd k ha]; exact .cons r ih
    | false =>
      cases hb : b k with
      | true => exact (ih.cons r).trans (List.perm_middle).symm
      | false => exact ih
theorem selO_split {q a b : Nat → Bool} {ow : Nat → List Res} (h : ∀ k, q k = (a k || b k)) (hd : ∀ k, a k = true → b k = false) : ∀ (m k : Nat), (selO q ow k m).Perm (selO a ow k m ++ selO b ow k m)
  | 0, k => .nil
  | m + 1, k => by
    have ih := selO_split (ow := ow) h hd m (k + 1)
    unfold selO
    rw [h k]
    cases ha : a k with
    | true =>
      rw [hd k ha]
      simp only [Bool.true_or, List.append_assoc]
      exact ih.append_left _
    | false =>
      cases hb : b k with
      | true =>
        simp only [Bool.or_true]
        refine (ih.append_left (ow k)).trans ?_
        rw [← List.append_assoc, ← List.append_assoc]
        exact List.perm_append_comm.append_right _
      | false => exact ih
theorem selO_congr {q q' : Nat → Bool} {ow ow' : Nat → List Res} : ∀ (m k : Nat), (∀ j, k ≤ j → j < k + m → q j = q' j ∧ (q j = true → ow j = ow' j)) → selO q ow k m = selO q' ow' k m
  | 0, k, _ => rfl
  | m + 1, k, h => by
    have ih := selO_congr m (k + 1) (fun j h1 h2 => h j (by omega) (by omega))
    unfold selO
    have hk := h k (Nat.le_refl _) (by omega)
    rw [← hk.1, ih]
    cases hq : q k with
    | true => simp only [hk.2 hq]
    | false => rfl
theorem selI_congr {q q' : Nat → Bool} (h : ∀ k, q k = q' k) (L : List Res) (k : Nat) : selI q k L = selI q' k L := by rw [show q = q' from funext h]
theorem selO_one {ow : Nat → List Res} {i : Nat} : ∀ (m k : Nat), k ≤ i → i < k + m → selO (fun j => j == i) ow k m = ow i
  | 0, k, h1, h2 => by omega
  | m + 1, k, h1, h2 => by
    unfold selO
    by_cases hk : k = i
    · subst hk
      have e : ∀ (m s : Nat), k < s → selO (fun j => j == k) ow s m = [] := by
        intro m
        induction m with
        | zero => intro s _; rfl
        | succ m ih =>
          intro s hs
          unfold selO
          rw [show (s == k) = false by simp; omega]
          exact ih (s + 1) (by omega)
      rw [e m (k + 1) (by omega)]
      simp
    · rw [show (k == i) = false by simp; exact hk]
      exact selO_one m (k + 1) (by omega) (by omega)
theorem perm6 {α : Type} (a b c d e f : List α) : ((a ++ (b ++ c)) ++ (d ++ (e ++ f))).Perm ((a ++ d) ++ ((b ++ e) ++ (c ++ f))) := by
  classical
  rw [List.perm_iff_count]
  intro x
  simp only [List.count_append]
  omega
theorem mask_mask {C C' : List Nat} {xs : Xs} (h : ∀ j ∈ C, j ∈ C') : mask C (mask C' xs) = mask C xs := by
  refine mask_congr fun j hj => ?_
  unfold mask
  rw [show C'.contains j = true by simpa using h j hj]
theorem mask_in {C : List Nat} {xs : Xs} {j : Nat} (h : j ∈ C) : mask C xs j = xs j := by
  unfold mask
  rw [show C.contains j = true by simpa using h]

/-- What an operation does that takes A, looks on at B, and leaves the rest. -/
structure QPT (P : Program) (n : Nat) (S : List Nat) (w0 : World) (o : Oper) (env : Env) (A B : List Res) (F : Value → Value → Prop) (N : Value → Value → List Res) : Prop where
  run : ∀ a w R, Models n env a → St S w0 (A ++ (B ++ R)) w → o.wp P a w (fun a' w' => ∃ v g, a' = a.put o.dst v ∧ (o.dst = none → v = undef) ∧ F v g ∧ St S w0 (N v g ++ (B ++ R)) w') noQ
/-- .. or it panics -/
structure QPX (P : Program) (n : Nat) (S : List Nat) (w0 : World) (Z : List PanicEntry → World → Prop) (o : Oper) (env : Env) (A B : List Res) : Prop where
  run : ∀ a w R, Models n env a → St S w0 (A ++ (B ++ R)) w → o.wp P a w (fun _ _ => False) (pQ Z)
def QPG (P : Program) (n : Nat) (S : List Nat) (w0 : World) (Z : List PanicEntry → World → Prop) (ops : Array Oper) (o : Oper) (env : Env) (A B : List Res) (F : Value → Value → Prop) (N : Value → Value → List Res) : Prop :=
  (Met ops env o.guard ∧ QPT P n S w0 o env A B F N) ∨ (Unmet ops env o.guard ∧ ∃ g, F undef g ∧ N undef g = A) ∨ (Met ops env o.guard ∧ QPX P n S w0 Z o env A B)
def envP (ops : Array Oper) (cv : Nat → Value) : List Nat → Env → Env
  | [], env => env
  | j :: r, env => envP ops cv r (ext ((ops[j]?).bind (·.dst)) (cv j) env)
theorem Models.envP {n : Nat} {ops : Array Oper} {cv : Nat → Value} (hd : ∀ (j : Nat) (o : Oper), ops[j]? = some o → dstOk n o.dst = true) :
    ∀ (W : List Nat) {env : Env} {a : Act}, Models n env a → Models n (envP ops cv W env) (frameOf ops cv W a)
  | [], env, a, h => h
  | j :: r, env, a, h => by
    refine Models.envP hd r (h.put ?_ _)
    cases hj : ops[j]? with
    | none => rfl
    | some o => simpa using hd j o hj
def stP (m : Nat) (Cs TI TO : List (List Nat)) (sp : List PS) (L : List Res) (D : Nat → Bool) (xs gs : Xs) : List Res :=
  selI (fun k => !takenB TI m D k) 0 L ++ selO (fun j => D j && !takenB TO m D j) (ownP sp Cs xs gs) 0 m
def preP (m : Nat) (Cs TI TO : List (List Nat)) (sp : List PS) (L : List Res) (i : Nat) (xs gs : Xs) : List Res :=
  selI (fun k => (lAt TI i).contains k) 0 L ++ selO (fun j => (lAt TO i).contains j) (ownP sp Cs xs gs) 0 m
def ctxP (m : Nat) (Cs TI TO : List (List Nat)) (sp : List PS) (L : List Res) (i : Nat) (xs gs : Xs) : List Res :=
  selI (fun k => waitsB TI Cs m i k) 0 L ++ selO (fun j => (lAt Cs i).contains j && waitsB TO Cs m i j) (ownP sp Cs xs gs) 0 m

theorem lAt_of {Cs : List (List Nat)} : ∀ {i : Nat} {C : List Nat}, Cs[i]? = some C → lAt Cs i = C := by
  induction Cs with
  | nil => intro i C h; simp at h
  | cons c r ih =>
    intro i C h
    cases i with
    | zero => simp at h; exact h
    | succ i => exact ih (by simpa using h)

section
variable {P : Program} {n : Nat} {S : List Nat} {w0 : World} {Q : QE} {env : Env} {L : List Res}
set_option maxHeartbeats 2000000 in
theorem VC_drawP {id : Nat} {l : List Oper} (m : Nat) (sp : List PS) (Ws Cs TI TO : List (List Nat)) (hmix : P.follows .mixedOrders = true)
    (hok : (orderly l.toArray n && tablesOk l.toArray m Ws Cs && takesOk m Cs TI TO && Nat.ble m l.length) = true)
    (hq : ∀ i o, i < m → l[i]? = some o → ∀ xs gs : Xs, (∀ j ∈ lAt Cs i, factP sp Cs xs gs j) →
      QPG P n S w0 (zQ S w0 Q) l.toArray o (envP l.toArray (curP sp Cs xs gs) (List.range i) env) (preP m Cs TI TO sp L i xs gs) (ctxP m Cs TI TO sp L i xs gs) ((psAt sp i).fact xs gs) ((psAt sp i).own xs gs))
    (hfin : ∀ xs gs : Xs, (∀ j, j < m → factP sp Cs xs gs j) → VL P n S w0 l.toArray (QN Q) (l.drop m) (envP l.toArray (curP sp Cs xs gs) (List.range m) env) (stP m Cs TI TO sp L (fun _ => true) xs gs)) :
    VC P n S w0 (.region id l.toArray true) Q env L := by
  simp only [Bool.and_eq_true] at hok
  obtain ⟨⟨⟨ho, ht⟩, htk⟩, hml⟩ := hok
  have hml := Nat.le_of_ble_eq_true hml
  refine ⟨fun a0 w hmod H => ?_⟩
  have hn := hmod.size
  have hlt : ∀ (i : Nat) (o : Oper), l.toArray[i]? = some o → ∀ j ∈ waits o, j < i := fun i o hi => (orderly_spec ho hi).1
  have hdst : ∀ (j : Nat) (o : Oper), l.toArray[j]? = some o → dstOk n o.dst = true := by
    intro j o hj
    cases hd : o.dst with
    | none => rfl
    | some d => exact Nat.ble_eq_true_of_le (((orderly_spec ho hj).2.1 d hd).1)
  have htab : ∀ (i : Nat) (o : Oper), l.toArray[i]? = some o → Cs[i]? = some (lAt Cs i) ∧ (∀ j ∈ waits o, j ∈ lAt Cs i) ∧ (∀ j ∈ lAt Cs i, j < i) ∧ (m ≤ i → ∀ j, j < i → j ∈ lAt Cs i) := by
    intro i o hi
    have ht' := ht
    simp only [tablesOk, Bool.and_eq_true, List.all_eq_true, List.mem_range] at ht'
    have hh := ht'.2 i (Array.getElem?_eq_some_iff.1 hi).1
    rw [hi] at hh
    cases hW : Ws[i]? with
    | none => rw [hW] at hh; simp at hh
    | some W =>
      cases hC : Cs[i]? with
      | none => rw [hW, hC] at hh; simp at hh
      | some C =>
        rw [hW, hC] at hh
        simp only [Bool.and_eq_true, List.all_eq_true, beq_iff_eq] at hh
        obtain ⟨⟨⟨⟨h0, h1⟩, h2⟩, h3⟩, h4⟩ := hh
        rw [lAt_of hC]
        refine ⟨rfl, fun j hj => by rw [h1] at hj; simpa using h2 j hj, fun j hj => Nat.le_of_ble_eq_true (h0 j hj), fun hmi j hj => ?_⟩
        rw [Nat.ble_eq_true_of_le hmi] at h4
        simp only [List.all_eq_true, List.mem_range] at h4
        simpa using h4 j hj
  have htake : ∀ i, i < m → (∀ j ∈ lAt TO i, j ∈ lAt Cs i) ∧ (∀ j ∈ lAt Cs i, ∀ k ∈ lAt Cs j, k ∈ lAt Cs i) ∧ (∀ i', i' < m → i ≠ i' → (∀ k ∈ lAt TI i, k ∉ lAt TI i') ∧ (∀ k ∈ lAt TO i, k ∉ lAt TO i')) := by
    intro i hi
    simp only [takesOk, List.all_eq_true, List.mem_range, Bool.and_eq_true, Bool.or_eq_true, beq_iff_eq] at htk
    obtain ⟨⟨h1, h2⟩, h3⟩ := htk i hi
    refine ⟨fun j hj => by simpa using h1 j hj, fun j hj k hk => by simpa using h2 j hj k hk, fun i' hi' hne => ?_⟩
    rcases h3 i' hi' with h | ⟨h4, h5⟩
    · exact absurd h hne
    · exact ⟨fun k hk => by simpa using h4 k hk, fun k hk => by simpa using h5 k hk⟩
  have hio' : ∀ i, i < l.length → ∃ o, l.toArray[i]? = some o := fun i hi => ⟨l[i], by simp [hi]⟩
  let Qf := lift n S w0 (QN Q)
  let C : (Nat → Bool) → (Nat → Value) → World → Prop := fun D xs w => ∃ gs : Xs,
    (∀ i, i < m → D i = true → factP sp Cs xs gs i) ∧
    ((D m = false ∧ St S w0 (stP m Cs TI TO sp L D xs gs) w) ∨
      ∃ t, 1 ≤ t ∧ m + t ≤ l.length ∧ (∀ i, m ≤ i → i < l.length → D i = decide (i < m + t)) ∧ wpList P l.toArray Qf (l.drop (m + t)) (frameOf l.toArray xs (List.range (m + t)) a0) w)
  have hcur : ∀ (xs gs : Xs) (j : Nat), factP sp Cs xs gs j → curP sp Cs xs gs j = xs j := fun xs gs j h => PS.cur_eq h
  -- the tail's beginning
  have hbegin : ∀ (D : Nat → Bool) (xs gs : Xs) (w : World), (∀ j, j < m → D j = true) → (∀ i, i < m → D i = true → factP sp Cs xs gs i) → St S w0 (stP m Cs TI TO sp L D xs gs) w →
      wpList P l.toArray Qf (l.drop m) (frameOf l.toArray xs (List.range m) a0) w := by
    intro D xs gs w hD hF Hs
    have hfs : ∀ j, j < m → factP sp Cs xs gs j := fun j hj => hF j hj (hD j hj)
    have ht1 : ∀ (T : List (List Nat)) (k : Nat), takenB T m D k = takenB T m (fun _ => true) k := by
      intro T k
      unfold takenB
      rw [Bool.eq_iff_iff, List.any_eq_true, List.any_eq_true]
      constructor
      · rintro ⟨i, hi, h⟩; exact ⟨i, hi, by simp only [Bool.and_eq_true] at h ⊢; exact ⟨trivial, h.2⟩⟩
      · rintro ⟨i, hi, h⟩; exact ⟨i, hi, by simp only [Bool.and_eq_true] at h ⊢; exact ⟨hD i (List.mem_range.1 hi), h.2⟩⟩
    have e : stP m Cs TI TO sp L D xs gs = stP m Cs TI TO sp L (fun _ => true) xs gs := by
      unfold stP
      rw [selI_congr (fun k => by rw [ht1 TI k]) L 0, selO_congr (q' := fun j => true && !takenB TO m (fun _ => true) j) m 0 (fun j _ hj => ⟨by rw [ht1 TO j, hD j (by omega)], fun _ => rfl⟩)]
    rw [e] at Hs
    have hfr : frameOf l.toArray xs (List.range m) a0 = frameOf l.toArray (curP sp Cs xs gs) (List.range m) a0 := frameOf_congr _ _ (fun j hj => (hcur xs gs j (hfs j (List.mem_range.1 hj))).symm)
    rw [hfr]
    exact (hfin xs gs hfs).run _ w (Models.envP hdst _ hmod) Hs
  -- where the tail stands
  have htail : ∀ (D : Nat → Bool) (xs : Nat → Value) (w : World) (i : Nat), m ≤ i → i ≤ l.length → (∀ j, j < i → D j = true) → (i < l.length → D i = false) → C D xs w →
      wpList P l.toArray Qf (l.drop i) (frameOf l.toArray xs (List.range i) a0) w := by
    intro D xs w i h1 h2 hD hi hC
    obtain ⟨gs, hF, hC⟩ := hC
    by_cases hmi : i = m
    · subst hmi
      rcases hC with ⟨_, Hs⟩ | ⟨t, ht1, ht2, ht3, _⟩
      · exact hbegin D xs gs w hD hF Hs
      · have := ht3 i (Nat.le_refl _) (by omega)
        rw [hi (by omega)] at this
        simp at this
        omega
    · rcases hC with ⟨hm0, _⟩ | ⟨t, ht1, ht2, ht3, hw⟩
      · rw [hD m (by omega)] at hm0; cases hm0
      · have ha := ht3 (i - 1) (by omega) (by omega)
        rw [hD (i - 1) (by omega)] at ha
        have ha' : i - 1 < m + t := by simpa using ha.symm
        have hb : m + t = i := by
          by_cases hil : i < l.length
          · have hb := ht3 i (by omega) hil
            rw [hi hil] at hb
            have hb' : ¬ (i < m + t) := by simpa using hb.symm
            omega
          · omega
        rw [hb] at hw
        exact hw
  refine wp_region_factsZ (C := C) (F := fun _ _ _ => True) (Z := zQ S w0 Q) hmix ho hn (fun ch a w hs hd ⟨M, h1, h2⟩ => ⟨[], M, ⟨hs, hd.trans hmod.defers, fun t v h => by cases h⟩, h1, h2 []⟩) (fun vs => ⟨fun _ => undef, fun i _ h => absurd h Bool.false_ne_true, .inl ⟨rfl, ?_⟩⟩) ?_ ?_
  · have e1 : ∀ k, takenB TI m (fun _ => false) k = false := by intro k; simp [takenB]
    have e2 : ∀ (L : List Res) (k : Nat), selI (fun k => !takenB TI m (fun _ => false) k) k L = L := by
      intro L
      induction L with
      | nil => intro k; rfl
      | cons r L ih => intro k; unfold selI; rw [e1 k]; simp only [Bool.not_false]; rw [ih (k + 1)]
    have e3 : ∀ (m' k : Nat), selO (fun j => false && !takenB TO m (fun _ => false) j) (ownP sp Cs vs fun _ => undef) k m' = [] := by
      intro m'
      induction m' with
      | zero => intro k; rfl
      | succ m' ih => intro k; unfold selO; exact ih (k + 1)
    unfold stP
    rw [e2, e3, List.append_nil]
    exact H.drew
  · intro i o hio D xs w hDi hDw hcl2 hC _
    have hil : i < l.length := by simpa using (Array.getElem?_eq_some_iff.1 hio).1
    obtain ⟨hCl, hWC, hCi, htl⟩ := htab i o hio
    have hClD : ∀ j ∈ lAt Cs i, D j = true := clos ht hlt hio hCl hDw hcl2
    -- those that are done wait for none that is not
    have hup : ∀ (k : Nat) (ok : Oper), l.toArray[k]? = some ok → D k = true → i ∉ lAt Cs k := by
      intro k ok hk hDk hin
      obtain ⟨hCk, _, _, _⟩ := htab k ok hk
      have := clos ht hlt hk hCk (hcl2 k ok hk hDk) hcl2 i hin
      rw [hDi] at this
      cases this
    by_cases him : i < m
    · obtain ⟨gs, hF, hCC⟩ := hC
      have hDm : D m = false ∧ St S w0 (stP m Cs TI TO sp L D xs gs) w := by
        rcases hCC with h | ⟨t, ht1, ht2, ht3, _⟩
        · exact h
        · exfalso
          have h0 := ht3 m (Nat.le_refl _) (by omega)
          have hDm : D m = true := by rw [h0]; simp; omega
          have hmo : l.toArray[m]? = some (l[m]'(by omega)) := by simp
          exact hup m _ hmo hDm ((htab m _ hmo).2.2.2 (Nat.le_refl _) i him)
      obtain ⟨hDm, Hs⟩ := hDm
      obtain ⟨hTO, hCC2, hTd⟩ := htake i him
      let xs' : Xs := mask (lAt Cs i) xs
      let gs' : Xs := mask (lAt Cs i) gs
      have hsame : ∀ j ∈ lAt Cs i, mask (lAt Cs j) xs' = mask (lAt Cs j) xs ∧ mask (lAt Cs j) gs' = mask (lAt Cs j) gs ∧ xs' j = xs j ∧ gs' j = gs j :=
        fun j hj => ⟨mask_mask (hCC2 j hj), mask_mask (hCC2 j hj), mask_in hj, mask_in hj⟩
      have hfact' : ∀ j ∈ lAt Cs i, factP sp Cs xs' gs' j := by
        intro j hj
        obtain ⟨a, b, c, d⟩ := hsame j hj
        unfold factP
        rw [a, b, c, d]
        exact hF j (by have := hCi j hj; omega) (hClD j hj)
      have hown' : ∀ j ∈ lAt Cs i, ownP sp Cs xs' gs' j = ownP sp Cs xs gs j := by
        intro j hj
        obtain ⟨a, b, c, d⟩ := hsame j hj
        unfold ownP
        rw [a, b, c, d]
      have hlo : l[i]? = some o := by simpa using hio
      have hobl := hq i o him hlo xs' gs' hfact'
      -- the frame
      let vs : Nat → Value := curP sp Cs xs' gs'
      have hvs : ∀ j ∈ waits o, xs j = vs j := by
        intro j hj
        have hj' := hWC j hj
        show xs j = curP sp Cs xs' gs' j
        rw [hcur xs' gs' j (hfact' j hj')]
        exact (hsame j hj').2.2.1.symm
      have hfw : frameOf l.toArray xs (waits o) a0 = frameOf l.toArray vs (waits o) a0 := frameOf_congr _ _ hvs
      obtain ⟨hex, hwa⟩ := wp_alike ho hn vs hio
      have hmw : Models n (envP l.toArray vs (List.range i) env) (frameOf l.toArray vs (List.range i) a0) := Models.envP hdst _ hmod
      -- what is owned
      have havI : ∀ k, (lAt TI i).contains k = true → takenB TI m D k = false := by
        intro k hk
        cases h : takenB TI m D k with
        | false => rfl
        | true =>
          unfold takenB at h
          obtain ⟨i', hi', h2⟩ := List.any_eq_true.1 h
          simp only [Bool.and_eq_true] at h2
          have hne : i ≠ i' := by rintro rfl; rw [hDi] at h2; cases h2.1
          exact absurd (by simpa using h2.2) (((hTd i' (List.mem_range.1 hi') hne).1) k (by simpa using hk))
      have havO : ∀ k, (lAt TO i).contains k = true → takenB TO m D k = false := by
        intro k hk
        cases h : takenB TO m D k with
        | false => rfl
        | true =>
          unfold takenB at h
          obtain ⟨i', hi', h2⟩ := List.any_eq_true.1 h
          simp only [Bool.and_eq_true] at h2
          have hne : i ≠ i' := by rintro rfl; rw [hDi] at h2; cases h2.1
          exact absurd (by simpa using h2.2) (((hTd i' (List.mem_range.1 hi') hne).2) k (by simpa using hk))
      have hwt : ∀ (T : List (List Nat)) (k : Nat), waitsB T Cs m i k = true → takenB T m D k = false ∧ (lAt T i).contains k = false := by
        intro T k hk
        simp only [waitsB, List.all_eq_true, List.mem_range, Bool.or_eq_true, Bool.not_eq_true'] at hk
        constructor
        · cases h : takenB T m D k with
          | false => rfl
          | true =>
            unfold takenB at h
            obtain ⟨i', hi', h2⟩ := List.any_eq_true.1 h
            simp only [Bool.and_eq_true] at h2
            rcases hk i' (List.mem_range.1 hi') with h3 | h3
            · rw [h3] at h2; cases h2.2
            · obtain ⟨o', ho'⟩ := hio' i' (by have := List.mem_range.1 hi'; omega)
              exact absurd (by simpa using h3) (hup i' o' ho' h2.1)
        · rcases hk i him with h3 | h3
          · exact h3
          · exact absurd (hCi i (by simpa using h3)) (Nat.lt_irrefl _)
      let rI : Nat → Bool := fun k => !takenB TI m D k && !(lAt TI i).contains k && !waitsB TI Cs m i k
      let rO : Nat → Bool := fun k => D k && !takenB TO m D k && !(lAt TO i).contains k && !((lAt Cs i).contains k && waitsB TO Cs m i k)
      let cI : Nat → Bool := fun k => waitsB TI Cs m i k
      let cO : Nat → Bool := fun k => (lAt Cs i).contains k && waitsB TO Cs m i k
      let pI : Nat → Bool := fun k => (lAt TI i).contains k
      let pO : Nat → Bool := fun k => (lAt TO i).contains k
      let RR : List Res := selI rI 0 L ++ selO rO (ownP sp Cs xs gs) 0 m
      have hpre : preP m Cs TI TO sp L i xs' gs' = selI pI 0 L ++ selO pO (ownP sp Cs xs gs) 0 m := by
        unfold preP
        rw [selO_congr (q' := pO) (ow' := ownP sp Cs xs gs) m 0 (fun j _ _ => ⟨rfl, fun h => hown' j (hTO j (by have h' : (lAt TO i).contains j = true := h; simpa using h'))⟩)]
      have hctx : ctxP m Cs TI TO sp L i xs' gs' = selI cI 0 L ++ selO cO (ownP sp Cs xs gs) 0 m := by
        unfold ctxP
        rw [selO_congr (q' := cO) (ow' := ownP sp Cs xs gs) m 0 (fun j _ _ => ⟨rfl, fun h => hown' j (by have h' : ((lAt Cs i).contains j && waitsB TO Cs m i j) = true := h; simp only [Bool.and_eq_true] at h'; simpa using h'.1)⟩)]
      have hI1 : (selI (fun k => !takenB TI m D k) 0 L).Perm (selI pI 0 L ++ (selI cI 0 L ++ selI rI 0 L)) := by
        refine (selI_split (a := pI) (b := fun k => cI k || rI k) ?_ ?_ L 0).trans ((selI_split (a := cI) (b := rI) (fun k => rfl) ?_ L 0).append_left _)
        · intro k
          show (!takenB TI m D k) = ((lAt TI i).contains k || (waitsB TI Cs m i k || (!takenB TI m D k && !(lAt TI i).contains k && !waitsB TI Cs m i k)))
          cases hp : (lAt TI i).contains k with
          | true => rw [havI k hp]; rfl
          | false =>
            cases hc : waitsB TI Cs m i k with
            | true => rw [(hwt TI k hc).1]; rfl
            | false => cases takenB TI m D k <;> rfl
        · intro k hp
          show (waitsB TI Cs m i k || (!takenB TI m D k && !(lAt TI i).contains k && !waitsB TI Cs m i k)) = false
          have hp' : (lAt TI i).contains k = true := hp
          rw [hp']
          cases hc : waitsB TI Cs m i k with
          | true => rw [(hwt TI k hc).2] at hp'; cases hp'
          | false => cases takenB TI m D k <;> rfl
        · intro k hc
          show (!takenB TI m D k && !(lAt TI i).contains k && !waitsB TI Cs m i k) = false
          rw [show waitsB TI Cs m i k = true from hc]
          simp
      have hO1 : (selO (fun j => D j && !takenB TO m D j) (ownP sp Cs xs gs) 0 m).Perm (selO pO (ownP sp Cs xs gs) 0 m ++ (selO cO (ownP sp Cs xs gs) 0 m ++ selO rO (ownP sp Cs xs gs) 0 m)) := by
        refine (selO_split (a := pO) (b := fun k => cO k || rO k) ?_ ?_ m 0).trans ((selO_split (a := cO) (b := rO) (fun k => rfl) ?_ m 0).append_left _)
        · intro k
          show (D k && !takenB TO m D k) = ((lAt TO i).contains k || (((lAt Cs i).contains k && waitsB TO Cs m i k) || (D k && !takenB TO m D k && !(lAt TO i).contains k && !((lAt Cs i).contains k && waitsB TO Cs m i k))))
          cases hp : (lAt TO i).contains k with
          | true => rw [havO k hp, hClD k (hTO k (by simpa using hp))]; rfl
          | false =>
            cases hc : ((lAt Cs i).contains k && waitsB TO Cs m i k) with
            | true =>
              simp only [Bool.and_eq_true] at hc
              rw [(hwt TO k hc.2).1, hClD k (by simpa using hc.1)]
              rfl
            | false => cases D k <;> cases takenB TO m D k <;> rfl
        · intro k hp
          show (((lAt Cs i).contains k && waitsB TO Cs m i k) || (D k && !takenB TO m D k && !(lAt TO i).contains k && !((lAt Cs i).contains k && waitsB TO Cs m i k))) = false
          have hp' : (lAt TO i).contains k = true := hp
          rw [hp']
          cases hc : waitsB TO Cs m i k with
          | true => rw [(hwt TO k hc).2] at hp'; cases hp'
          | false => simp
        · intro k hc
          show (D k && !takenB TO m D k && !(lAt TO i).contains k && !((lAt Cs i).contains k && waitsB TO Cs m i k)) = false
          rw [show ((lAt Cs i).contains k && waitsB TO Cs m i k) = true from hc]
          simp
      have Hs' : St S w0 (preP m Cs TI TO sp L i xs' gs' ++ (ctxP m Cs TI TO sp L i xs' gs' ++ RR)) w := by
        rw [hpre, hctx]
        exact Hs.perm ((hI1.append hO1).trans (perm6 _ _ _ _ _ _))
      have hnew : ∀ v g w', (psAt sp i).fact xs' gs' v g → St S w0 ((psAt sp i).own xs' gs' v g ++ (ctxP m Cs TI TO sp L i xs' gs' ++ RR)) w' → C (also D i) (came xs i v) w' := by
        intro v g w' hv Hn
        have hmk : ∀ k, (D k = true ∨ k = i) → k < m → mask (lAt Cs k) (came xs i v) = mask (lAt Cs k) xs ∧ mask (lAt Cs k) (came gs i g) = mask (lAt Cs k) gs := by
          intro k hk hkm
          have hnin : i ∉ lAt Cs k := by
            obtain ⟨ok, hok⟩ := hio' k (by omega)
            rcases hk with hk | rfl
            · exact hup k ok hok hk
            · intro h; exact absurd (hCi k h) (Nat.lt_irrefl _)
          constructor <;> refine mask_congr fun j hj => ?_ <;> (unfold came; rw [if_neg (by rintro rfl; exact hnin hj)])
        have hother : ∀ (us : Nat → Value) (u : Value) k, k ≠ i → came us i u k = us k := fun us u k hk => by unfold came; rw [if_neg hk]
        have hself : ∀ (us : Nat → Value) (u : Value), came us i u i = u := fun us u => by simp [came]
        have hal : ∀ k, also D i k = (k == i || D k) := fun _ => rfl
        refine ⟨came gs i g, ?_, .inl ⟨?_, ?_⟩⟩
        · intro k hk hDk
          by_cases hki : k = i
          · subst hki
            unfold factP
            rw [(hmk k (.inr rfl) hk).1, (hmk k (.inr rfl) hk).2, hself, hself]
            exact hv
          · have hDk' : D k = true := by rw [hal] at hDk; simpa [hki] using hDk
            unfold factP
            rw [(hmk k (.inl hDk') hk).1, (hmk k (.inl hDk') hk).2, hother _ _ k hki, hother _ _ k hki]
            exact hF k hk hDk'
        · rw [hal, hDm]; simp; omega
        · have hown1 : ∀ k, k < m → k ≠ i → D k = true → ownP sp Cs (came xs i v) (came gs i g) k = ownP sp Cs xs gs k := by
            intro k hk hki hDk
            unfold ownP
            rw [(hmk k (.inl hDk) hk).1, (hmk k (.inl hDk) hk).2, hother _ _ k hki, hother _ _ k hki]
          have hown2 : ownP sp Cs (came xs i v) (came gs i g) i = (psAt sp i).own xs' gs' v g := by
            unfold ownP
            rw [(hmk i (.inr rfl) him).1, (hmk i (.inr rfl) him).2, hself, hself]
          have htaken : ∀ (T : List (List Nat)) k, takenB T m (also D i) k = (takenB T m D k || (lAt T i).contains k) := by
            intro T k
            rw [Bool.eq_iff_iff, Bool.or_eq_true]
            unfold takenB
            rw [List.any_eq_true, List.any_eq_true]
            constructor
            · rintro ⟨i', hi', h⟩
              simp only [Bool.and_eq_true, hal, Bool.or_eq_true, beq_iff_eq] at h
              rcases h.1 with rfl | h1
              · exact .inr h.2
              · exact .inl ⟨i', hi', by simp only [Bool.and_eq_true]; exact ⟨h1, h.2⟩⟩
            · rintro (⟨i', hi', h⟩ | h)
              · simp only [Bool.and_eq_true] at h
                exact ⟨i', hi', by simp only [Bool.and_eq_true, hal, Bool.or_eq_true]; exact ⟨.inr h.1, h.2⟩⟩
              · exact ⟨i, List.mem_range.2 him, by simp only [Bool.and_eq_true, hal, Bool.or_eq_true, beq_self_eq_true]; exact ⟨.inl trivial, h⟩⟩
          have htoi : takenB TO m D i = false ∧ (lAt TO i).contains i = false := by
            constructor
            · cases h : takenB TO m D i with
              | false => rfl
              | true =>
                unfold takenB at h
                obtain ⟨i', hi', h2⟩ := List.any_eq_true.1 h
                simp only [Bool.and_eq_true] at h2
                have hi'm := List.mem_range.1 hi'
                obtain ⟨o', ho'⟩ := hio' i' (by omega)
                exact absurd ((htake i' hi'm).1 i (by simpa using h2.2)) (hup i' o' ho' h2.1)
            · cases h : (lAt TO i).contains i with
              | false => rfl
              | true => exact absurd (hCi i (hTO i (by simpa using h))) (Nat.lt_irrefl _)
          have hI2 : (selI (fun k => !takenB TI m (also D i) k) 0 L).Perm ([] ++ (selI cI 0 L ++ selI rI 0 L)) := by
            rw [List.nil_append]
            refine selI_split ?_ ?_ L 0
            · intro k
              show (!takenB TI m (also D i) k) = (waitsB TI Cs m i k || (!takenB TI m D k && !(lAt TI i).contains k && !waitsB TI Cs m i k))
              rw [htaken]
              cases hc : waitsB TI Cs m i k with
              | true => rw [(hwt TI k hc).1, (hwt TI k hc).2]; rfl
              | false => cases takenB TI m D k <;> cases (lAt TI i).contains k <;> rfl
            · intro k hc
              show (!takenB TI m D k && !(lAt TI i).contains k && !waitsB TI Cs m i k) = false
              rw [show waitsB TI Cs m i k = true from hc]
              simp
          have hO2 : (selO (fun j => also D i j && !takenB TO m (also D i) j) (ownP sp Cs (came xs i v) (came gs i g)) 0 m).Perm ((psAt sp i).own xs' gs' v g ++ (selO cO (ownP sp Cs xs gs) 0 m ++ selO rO (ownP sp Cs xs gs) 0 m)) := by
            have hsp1 := selO_split (q := fun j => also D i j && !takenB TO m (also D i) j) (a := fun j => j == i) (b := fun k => cO k || rO k) (ow := ownP sp Cs (came xs i v) (came gs i g)) (by
              intro k
              show (also D i k && !takenB TO m (also D i) k) = ((k == i) || (((lAt Cs i).contains k && waitsB TO Cs m i k) || (D k && !takenB TO m D k && !(lAt TO i).contains k && !((lAt Cs i).contains k && waitsB TO Cs m i k))))
              rw [htaken, hal]
              by_cases hki : k = i
              · subst hki
                rw [htoi.1, htoi.2]
                simp
              · rw [show (k == i) = false by simp; exact hki]
                cases hc : ((lAt Cs i).contains k && waitsB TO Cs m i k) with
                | true =>
                  simp only [Bool.and_eq_true] at hc
                  rw [(hwt TO k hc.2).1, (hwt TO k hc.2).2, hClD k (by simpa using hc.1)]
                  rfl
                | false => cases D k <;> cases takenB TO m D k <;> cases (lAt TO i).contains k <;> rfl) (by
              intro k hk
              have hki : k = i := by simpa using hk
              subst hki
              show (((lAt Cs k).contains k && waitsB TO Cs m k k) || (D k && !takenB TO m D k && !(lAt TO k).contains k && !((lAt Cs k).contains k && waitsB TO Cs m k k))) = false
              rw [hDi, show (lAt Cs k).contains k = false by
                cases h : (lAt Cs k).contains k with
                | false => rfl
                | true => exact absurd (hCi k (by simpa using h)) (Nat.lt_irrefl _)]
              rfl) m 0
            rw [selO_one m 0 (Nat.zero_le _) (by omega), hown2] at hsp1
            refine hsp1.trans (List.Perm.append_left _ ?_)
            have hb : selO (fun k => cO k || rO k) (ownP sp Cs (came xs i v) (came gs i g)) 0 m = selO (fun k => cO k || rO k) (ownP sp Cs xs gs) 0 m := by
              refine selO_congr m 0 (fun j _ hj => ⟨rfl, fun h => ?_⟩)
              have hDj : D j = true ∧ j ≠ i := by
                have h' : (((lAt Cs i).contains j && waitsB TO Cs m i j) || (D j && !takenB TO m D j && !(lAt TO i).contains j && !((lAt Cs i).contains j && waitsB TO Cs m i j))) = true := h
                simp only [Bool.or_eq_true, Bool.and_eq_true] at h'
                rcases h' with h' | h'
                · have : j ∈ lAt Cs i := by simpa using h'.1
                  exact ⟨hClD j this, by have := hCi j this; omega⟩
                · refine ⟨h'.1.1.1, ?_⟩
                  rintro rfl
                  rw [hDi] at h'
                  cases h'.1.1.1
              exact hown1 j (by omega) hDj.2 hDj.1
            rw [hb]
            refine selO_split (fun k => rfl) ?_ m 0
            intro k hc
            show (D k && !takenB TO m D k && !(lAt TO i).contains k && !((lAt Cs i).contains k && waitsB TO Cs m i k)) = false
            rw [show ((lAt Cs i).contains k && waitsB TO Cs m i k) = true from hc]
            simp
          refine Hn.perm ?_
          rw [hctx]
          unfold stP
          exact (((hI2.append hO2).trans (perm6 _ _ _ _ _ _)).symm)
      -- what the operation does
      rw [hfw, ← hwa]
      rcases hobl with ⟨hmet, hqt⟩ | ⟨hun, g, hg1, hg2⟩ | ⟨hmet, hqx⟩
      · rw [if_pos (hmet.wanted hmw)]
        have hwp := hqt.run _ w RR hmw Hs'
        unfold Oper.wp at hwp ⊢
        rw [hex] at hwp
        refine upon_imp hwp ?_ ?_
        · rintro v w' ⟨u, g, h1, h2, h3, h4⟩
          have hsz : ∀ d, o.dst = some d → d < n := fun d hd => ((orderly_spec ho hio).2.1 d hd).1
          have hu := put_value (o := o) (n := n) (a := frameOf l.toArray vs (List.range i) a0) hsz (by rw [frameOf_size]; exact hn) h1 h2
          have hu2 : valOf o ((frameOf l.toArray vs (waits o) a0).put o.dst v) = u := by
            rw [← hu]
            unfold valOf
            cases hd : o.dst with
            | none => rfl
            | some d => exact (put_getD_same (by rw [frameOf_size, hn]; exact hsz d hd)).trans (put_getD_same (by rw [frameOf_size, hn]; exact hsz d hd)).symm
          rw [hu2]
          exact ⟨by rw [put_defs, frameOf_defers], hnew u g w' h3 h4, fun _ _ _ => trivial, trivial⟩
        · rintro d w' ⟨u, g, h1, _⟩
          have h5 := congrArg Act.defers h1
          rw [put_defs, put_defs] at h5
          have h6 := congrArg List.length h5
          simp at h6
      · rw [hun.wanted hmw]
        simp only [Bool.false_eq_true, if_false]
        exact ⟨hnew undef g w hg1 (by rw [hg2]; exact Hs'), trivial⟩
      · rw [if_pos (hmet.wanted hmw)]
        have hwp := hqx.run _ w RR hmw Hs'
        unfold Oper.wp at hwp ⊢
        rw [hex] at hwp
        exact upon_impZ hwp (fun _ _ h => h.elim) (fun _ _ h => h) (fun _ _ h => h.elim)
    · -- one of the tail
      have hall : ∀ j, j < i → D j = true := fun j hj => hClD j (htl (by omega) j hj)
      have hw := htail D xs w i (by omega) (by omega) hall (fun _ => hDi) hC
      obtain ⟨gs, hF, _⟩ := hC
      have hdrop : l.drop i = o :: l.drop (i + 1) := by
        rw [List.drop_eq_getElem_cons hil]
        congr 1
        have h1 : l[i]? = some o := by simpa using hio
        exact (List.getElem?_eq_some_iff.1 h1).2
      rw [hdrop] at hw
      obtain ⟨hex, hwa⟩ := wp_alike ho hn xs hio
      have hnew : ∀ v w', (o.dst = none → v = undef) → wpList P l.toArray Qf (l.drop (i + 1)) ((frameOf l.toArray xs (List.range i) a0).put o.dst v) w' → C (also D i) (came xs i v) w' := by
        intro v w' hv hk
        have hne : ∀ k, k ≠ i → also D i k = D k := by
          intro k hk
          unfold also
          have hb : (k == i) = false := by simp [hk]
          rw [hb]; rfl
        refine ⟨gs, ?_, .inr ⟨i - m + 1, by omega, by omega, ?_, ?_⟩⟩
        · intro k hk hDk
          have hki : k ≠ i := by omega
          rw [hne k hki] at hDk
          have hnin : i ∉ lAt Cs k := by
            obtain ⟨ok, hok⟩ := hio' k (by omega)
            exact hup k ok hok hDk
          unfold factP
          rw [show mask (lAt Cs k) (came xs i v) = mask (lAt Cs k) xs from mask_congr fun j hj => by unfold came; rw [if_neg (by rintro rfl; exact hnin hj)], show came xs i v k = xs k by unfold came; rw [if_neg hki]]
          exact hF k hk hDk
        · intro k hmk hkl
          by_cases hki : k = i
          · subst hki
            have : also D k k = true := by simp [also]
            rw [this]; symm; simp; omega
          · rw [hne k hki]
            by_cases hlt' : k < i
            · rw [hall k hlt']; symm; simp; omega
            · have hDk : D k = false := by
                cases hd : D k with
                | false => rfl
                | true =>
                  have hko : l.toArray[k]? = some (l[k]'hkl) := by simp [hkl]
                  exact absurd ((htab k _ hko).2.2.2 hmk i (by omega)) (hup k _ hko hd)
              rw [hDk]; symm; simp; omega
        · rw [show m + (i - m + 1) = i + 1 by omega, List.range_succ, frameOf_append]
          have e1 : frameOf l.toArray (came xs i v) (List.range i) a0 = frameOf l.toArray xs (List.range i) a0 :=
            frameOf_congr _ _ (fun j hj => by unfold came; rw [if_neg (by have := List.mem_range.1 hj; omega)])
          rw [e1]
          have e2 : (l.toArray[i]?).bind (·.dst) = o.dst := by rw [hio]; rfl
          have e3 : came xs i v i = v := by simp [came]
          show wpList P l.toArray Qf _ ((frameOf l.toArray xs (List.range i) a0).put ((l.toArray[i]?).bind (·.dst)) (came xs i v i)) w'
          rw [e2, e3]
          exact hk
      unfold wpList at hw
      rw [hwa] at hw
      split
      · rename_i hwt
        rw [if_pos hwt] at hw
        rcases hw with hw | ⟨_, hw⟩
        · unfold Oper.wp at hw ⊢
          rw [hex] at hw
          refine upon_impZ (upon_zQ hw) ?_ (fun _ _ h => h) ?_
          · intro v w' hk
            have hsz : ∀ d, o.dst = some d → d < n := fun d hd => ((orderly_spec ho hio).2.1 d hd).1
            cases hd : o.dst with
            | none =>
              rw [hd] at hk
              have hv : valOf o ((frameOf l.toArray xs (waits o) a0).put none v) = undef := by unfold valOf; rw [hd]
              rw [hv]
              exact ⟨by rw [put_defs, frameOf_defers], hnew undef w' (fun _ => rfl) (by rw [hd]; exact hk), fun _ _ _ => trivial, trivial⟩
            | some d =>
              have hv : valOf o ((frameOf l.toArray xs (waits o) a0).put (some d) v) = v := by
                unfold valOf
                rw [hd]
                exact put_getD_same (by rw [frameOf_size, hn]; exact hsz d hd)
              rw [hv]
              exact ⟨by rw [put_defs, frameOf_defers], hnew v w' (fun h => by rw [hd] at h; cases h) hk, fun _ _ _ => trivial, trivial⟩
          · intro d w' hk
            exact no_defers _ _ _ (by rw [put_defs]; simp) hk
        · exact (no_out hw).elim
      · rename_i hwt
        rw [if_neg hwt] at hw
        exact ⟨hnew undef w (fun _ => rfl) hw, trivial⟩
  · intro D xs w hD hC _
    have hw := htail D xs w l.length hml (Nat.le_refl _) (fun j hj => hD j (by simpa using hj)) (fun h => absurd h (Nat.lt_irrefl _)) hC
    rw [List.drop_length] at hw
    obtain ⟨env', L', h1, h2, h3⟩ := hw
    refine ⟨env', L', ?_, h2, h3⟩
    simpa using h1

/-! ### in the order of the text -/
abbrev AkP := List (Nat × List Nat × (Xs → Xs → Value → Value → Prop) × (Xs → Xs → Value → Value → List Res))
def factsAP (C : List Nat) (xs gs : Xs) : AkP → Prop
  | [] => True
  | (j, Cj, F, _) :: r => (C.contains j = true → F (mask Cj xs) (mask Cj gs) (xs j) (gs j)) ∧ factsAP C xs gs r
def ownsA (q : Nat → Bool) (xs gs : Xs) : AkP → List Res
  | [] => []
  | (j, Cj, _, N) :: r => match q j with
    | true => N (mask Cj xs) (mask Cj gs) (xs j) (gs j) ++ ownsA q xs gs r
    | false => ownsA q xs gs r
def factsTP (xs gs : Xs) : AkP → Prop
  | [] => True
  | (j, Cj, F, _) :: r => F (mask Cj xs) (mask Cj gs) (xs j) (gs j) ∧ factsTP xs gs r
def PS.ak (k : Nat) (C : List Nat) : PS → AkP
  | .val _ => []
  | .any F N => [(k, C, F, N)]
def akP (Cs : List (List Nat)) : Nat → List PS → AkP
  | _, [] => []
  | k, s :: r => s.ak k (lAt Cs k) ++ akP Cs (k + 1) r
/-- an operation's table: what it waits for with all that these wait for; what it takes of the first, of the operations; what it looks on at of the first, of the operations -/
abbrev T5 := List Nat × List Nat × List Nat × List Nat × List Nat
def quietsP (P : Program) (n : Nat) (S : List Nat) (w0 : World) (Z : List PanicEntry → World → Prop) (ops : Array Oper) (L : List Res) (F : (Xs → Xs → Env) → AkP → Prop) : Nat → List Oper → List T5 → (Xs → Xs → Env) → AkP → Prop
  | k, o :: r, (C, ti, to, xi, xo) :: Ts, E, A => ∃ s : PS, (∀ xs gs : Xs, factsAP C xs gs A →
      QPG P n S w0 Z ops o (E xs gs) (selI (fun j => ti.contains j) 0 L ++ ownsA (fun j => to.contains j) xs gs A) (selI (fun j => xi.contains j) 0 L ++ ownsA (fun j => xo.contains j) xs gs A) (s.fact xs gs) (s.own xs gs)) ∧
      quietsP P n S w0 Z ops L F (k + 1) r Ts (fun xs gs => ext o.dst (s.cur (mask C xs) (mask C gs) (xs k)) (E xs gs)) (A ++ s.ak k C)
  | _, [], _, E, A => F E A
  | _, _, _, _, _ => False
def tAt : List T5 → Nat → T5
  | [], _ => ([], [], [], [], [])
  | c :: r, k => match k with | 0 => c | k + 1 => tAt r k
def fivesOk (m nL : Nat) (Cs : List (List Nat)) (Ts : List T5) : Bool :=
  (Ts.length == m) && takesOk m Cs (Ts.map (·.2.1)) (Ts.map (·.2.2.1)) &&
  (List.range m).all fun i => ((tAt Ts i).1 == lAt Cs i) && ((tAt Ts i).2.1 == lAt (Ts.map (·.2.1)) i) && ((tAt Ts i).2.2.1 == lAt (Ts.map (·.2.2.1)) i) &&
    ((List.range nL).all fun k => (tAt Ts i).2.2.2.1.contains k == waitsB (Ts.map (·.2.1)) Cs m i k) &&
    ((List.range m).all fun j => (tAt Ts i).2.2.2.2.contains j == ((lAt Cs i).contains j && waitsB (Ts.map (·.2.2.1)) Cs m i j)) && ((tAt Ts i).2.2.2.2.all fun j => Nat.ble (j + 1) m)

theorem psAt_left : ∀ (a b : List PS) (j : Nat), j < a.length → psAt (a ++ b) j = psAt a j
  | [], b, j, h => by simp at h
  | s :: a, b, 0, h => rfl
  | s :: a, b, j + 1, h => psAt_left a b j (by simpa using h)
theorem psAt_last : ∀ (a : List PS) (s : PS) (b : List PS), psAt (a ++ s :: b) a.length = s
  | [], s, b => rfl
  | x :: a, s, b => psAt_last a s b
theorem psAt_of_le : ∀ (sp : List PS) (k : Nat), sp.length ≤ k → psAt sp k = .val fun _ _ => undef
  | [], _, _ => rfl
  | s :: r, 0, h => by simp at h
  | s :: r, k + 1, h => psAt_of_le r k (by simpa using h)
theorem akP_append (Cs : List (List Nat)) : ∀ (a b : List PS) (k : Nat), akP Cs k (a ++ b) = akP Cs k a ++ akP Cs (k + a.length) b
  | [], b, k => by simp [akP]
  | s :: a, b, k => by
    show s.ak k (lAt Cs k) ++ akP Cs (k + 1) (a ++ b) = s.ak k (lAt Cs k) ++ akP Cs (k + 1) a ++ akP Cs _ b
    rw [akP_append Cs a b (k + 1), List.append_assoc, show k + 1 + a.length = k + (s :: a).length by simp; omega]
theorem ownsA_of {q : Nat → Bool} {Cs : List (List Nat)} {xs gs : Xs} : ∀ (sp pre : List PS) (m : Nat), sp.length ≤ m → selO q (ownP (pre ++ sp) Cs xs gs) pre.length m = ownsA q xs gs (akP Cs pre.length sp)
  | [], pre, m, h => by
    have key : ∀ (m k : Nat), pre.length ≤ k → selO q (ownP (pre ++ []) Cs xs gs) k m = [] := by
      intro m
      induction m with
      | zero => intro k _; rfl
      | succ m ih =>
        intro k hk
        unfold selO
        rw [ih (k + 1) (by omega)]
        have : ownP (pre ++ []) Cs xs gs k = [] := by unfold ownP; rw [List.append_nil, psAt_of_le pre k hk]; rfl
        rw [this]
        cases q k <;> rfl
    exact key m _ (Nat.le_refl _)
  | s :: r, pre, 0, h => by simp at h
  | s :: r, pre, m + 1, h => by
    have ih := ownsA_of (q := q) (Cs := Cs) (xs := xs) (gs := gs) r (pre ++ [s]) m (by simpa using h)
    rw [show pre ++ [s] ++ r = pre ++ s :: r by simp, show (pre ++ [s]).length = pre.length + 1 by simp] at ih
    unfold selO
    rw [ih]
    have h0 : ownP (pre ++ s :: r) Cs xs gs pre.length = s.own (mask (lAt Cs pre.length) xs) (mask (lAt Cs pre.length) gs) (xs pre.length) (gs pre.length) := by unfold ownP; rw [psAt_last]
    rw [h0]
    cases s with
    | val f =>
      show (match q pre.length with | true => [] ++ ownsA q xs gs (akP Cs (pre.length + 1) r) | false => ownsA q xs gs (akP Cs (pre.length + 1) r)) = ownsA q xs gs (akP Cs (pre.length + 1) r)
      cases q pre.length <;> rfl
    | any F N => rfl
theorem factsAP_of {C : List Nat} {Cs : List (List Nat)} {xs gs : Xs} : ∀ (sp pre : List PS), (∀ j, pre.length ≤ j → j < pre.length + sp.length → C.contains j = true → factP (pre ++ sp) Cs xs gs j) → factsAP C xs gs (akP Cs pre.length sp)
  | [], pre, _ => trivial
  | s :: r, pre, h => by
    have ih := factsAP_of (C := C) (Cs := Cs) (xs := xs) (gs := gs) r (pre ++ [s]) (fun j h1 h2 hc => by
      rw [show pre ++ [s] ++ r = pre ++ s :: r by simp]
      simp only [List.length_append, List.length_singleton] at h1 h2
      exact h j (by omega) (by simp; omega) hc)
    rw [show (pre ++ [s]).length = pre.length + 1 by simp] at ih
    cases s with
    | val f => exact ih
    | any F N =>
      refine ⟨fun hc => ?_, ih⟩
      have := h pre.length (Nat.le_refl _) (by simp) hc
      unfold factP at this
      rw [psAt_last] at this
      exact this
theorem factsTP_of {Cs : List (List Nat)} {xs gs : Xs} : ∀ (sp pre : List PS), (∀ j, pre.length ≤ j → j < pre.length + sp.length → factP (pre ++ sp) Cs xs gs j) → factsTP xs gs (akP Cs pre.length sp)
  | [], pre, _ => trivial
  | s :: r, pre, h => by
    have ih := factsTP_of (Cs := Cs) (xs := xs) (gs := gs) r (pre ++ [s]) (fun j h1 h2 => by
      rw [show pre ++ [s] ++ r = pre ++ s :: r by simp]
      simp only [List.length_append, List.length_singleton] at h1 h2
      exact h j (by omega) (by simp; omega))
    rw [show (pre ++ [s]).length = pre.length + 1 by simp] at ih
    cases s with
    | val f => exact ih
    | any F N =>
      refine ⟨?_, ih⟩
      have := h pre.length (Nat.le_refl _) (by simp)
      unfold factP at this
      rw [psAt_last] at this
      exact this
theorem envP_congr {ops : Array Oper} {cv cv' : Nat → Value} : ∀ (W : List Nat) (env : Env), (∀ j ∈ W, cv j = cv' j) → envP ops cv W env = envP ops cv' W env
  | [], env, _ => rfl
  | j :: W, env, h => by
    unfold envP
    rw [h j (by simp)]
    exact envP_congr W _ (fun k hk => h k (by simp [hk]))
theorem envP_append {ops : Array Oper} {cv : Nat → Value} : ∀ (l m : List Nat) (e : Env), envP ops cv (l ++ m) e = envP ops cv m (envP ops cv l e)
  | [], _, _ => rfl
  | j :: l, m, e => envP_append l m _
theorem curP_left {Cs : List (List Nat)} {xs gs : Xs} (a b : List PS) {j : Nat} (h : j < a.length) : curP (a ++ b) Cs xs gs j = curP a Cs xs gs j := by unfold curP; rw [psAt_left a b j h]
theorem quietsP_spec {Z : List PanicEntry → World → Prop} {ops : Array Oper} {Cs : List (List Nat)} {F : (Xs → Xs → Env) → AkP → Prop} {env0 : Env} : ∀ (r : List Oper) (Ts : List T5) (acc : List PS), (∀ i o, r[i]? = some o → ops[acc.length + i]? = some o) → (∀ i, i < r.length → (tAt Ts i).1 = lAt Cs (acc.length + i)) → Ts.length ≤ r.length →
    quietsP P n S w0 Z ops L F acc.length r Ts (fun xs gs => envP ops (curP acc Cs xs gs) (List.range acc.length) env0) (akP Cs 0 acc) →
    ∃ t : List PS, t.length = r.length ∧ F (fun xs gs => envP ops (curP (acc ++ t) Cs xs gs) (List.range (acc ++ t).length) env0) (akP Cs 0 (acc ++ t)) ∧
      ∀ i o, r[i]? = some o → ∀ xs gs : Xs, factsAP (lAt Cs (acc.length + i)) xs gs (akP Cs 0 ((acc ++ t).take (acc.length + i))) → QPG P n S w0 Z ops o (envP ops (curP (acc ++ t) Cs xs gs) (List.range (acc.length + i)) env0)
        (selI (fun j => (tAt Ts i).2.1.contains j) 0 L ++ ownsA (fun j => (tAt Ts i).2.2.1.contains j) xs gs (akP Cs 0 ((acc ++ t).take (acc.length + i)))) (selI (fun j => (tAt Ts i).2.2.2.1.contains j) 0 L ++ ownsA (fun j => (tAt Ts i).2.2.2.2.contains j) xs gs (akP Cs 0 ((acc ++ t).take (acc.length + i)))) ((psAt (acc ++ t) (acc.length + i)).fact xs gs) ((psAt (acc ++ t) (acc.length + i)).own xs gs)
  | [], Ts, acc, _, _, hlen, h => ⟨[], rfl, by unfold quietsP at h; simpa using h, fun i o hi => by simp at hi⟩
  | o :: r, [], acc, hat, hcs, _, h => by unfold quietsP at h; exact h.elim
  | o :: r, (C, ti, to, xi, xo) :: Ts, acc, hat, hcs, hlen, h => by
    obtain ⟨s, h1, h2⟩ := h
    have hC : C = lAt Cs acc.length := by have := hcs 0 (by simp); simpa [tAt] using this
    have hE : (fun xs gs => ext o.dst (s.cur (mask C xs) (mask C gs) (xs acc.length)) (envP ops (curP acc Cs xs gs) (List.range acc.length) env0)) = fun xs gs => envP ops (curP (acc ++ [s]) Cs xs gs) (List.range (acc ++ [s]).length) env0 := by
      funext xs gs
      rw [show (acc ++ [s]).length = acc.length + 1 by simp, List.range_succ, envP_append, envP_congr (cv := curP (acc ++ [s]) Cs xs gs) (cv' := curP acc Cs xs gs) (List.range acc.length) env0 (fun j hj => curP_left acc [s] (List.mem_range.1 hj))]
      show _ = ext ((ops[acc.length]?).bind (·.dst)) (curP (acc ++ [s]) Cs xs gs acc.length) _
      have h0 := hat 0 o rfl
      rw [Nat.add_zero] at h0
      rw [h0]
      unfold curP
      rw [psAt_last, hC]
      rfl
    have hA : akP Cs 0 acc ++ s.ak acc.length C = akP Cs 0 (acc ++ [s]) := by
      rw [akP_append, Nat.zero_add, hC]
      simp [akP]
    rw [hE, hA, show acc.length + 1 = (acc ++ [s]).length by simp] at h2
    obtain ⟨t, ht1, ht2, ht3⟩ := quietsP_spec r Ts (acc ++ [s]) (fun i o' hi => by
      have := hat (i + 1) o' (by simpa using hi)
      rwa [show (acc ++ [s]).length + i = acc.length + (i + 1) by simp; omega]) (fun i hi => by
      have := hcs (i + 1) (by simpa using hi)
      rw [show (acc ++ [s]).length + i = acc.length + (i + 1) by simp; omega]
      exact this) (by simpa using hlen) h2
    have e : acc ++ [s] ++ t = acc ++ s :: t := by simp
    rw [e] at ht2 ht3
    refine ⟨s :: t, by simp [ht1], ht2, ?_⟩
    intro i o' hi xs gs hx
    cases i with
    | zero =>
      simp only [List.getElem?_cons_zero, Option.some.injEq] at hi
      subst hi
      rw [Nat.add_zero] at hx ⊢
      rw [show (acc ++ s :: t).take acc.length = acc by simp] at hx ⊢
      rw [psAt_last, envP_congr (cv := curP (acc ++ s :: t) Cs xs gs) (cv' := curP acc Cs xs gs) (List.range acc.length) env0 (fun j hj => curP_left acc (s :: t) (List.mem_range.1 hj))]
      exact h1 xs gs (by rw [hC]; exact hx)
    | succ i =>
      have := ht3 i o' (by simpa using hi) xs gs (by rwa [show (acc ++ [s]).length + i = acc.length + (i + 1) by simp; omega])
      rwa [show (acc ++ [s]).length + i = acc.length + (i + 1) by simp; omega] at this
theorem lAt_map {α : Type} (f : T5 → List Nat) : ∀ (Ts : List T5) (i : Nat), i < Ts.length → lAt (Ts.map f) i = f (tAt Ts i)
  | [], i, h => by simp at h
  | c :: r, 0, h => rfl
  | c :: r, i + 1, h => lAt_map (α := α) f r i (by simpa using h)
theorem selI_congrL {q q' : Nat → Bool} : ∀ (L : List Res) (k : Nat), (∀ j, k ≤ j → j < k + L.length → q j = q' j) → selI q k L = selI q' k L
  | [], k, _ => rfl
  | r :: L, k, h => by
    unfold selI
    rw [h k (Nat.le_refl _) (by simp), selI_congrL L (k + 1) (fun j h1 h2 => h j (by omega) (by simp; omega))]
/-- what is owned at the end -/
def endP (m : Nat) (Ts : List T5) (L : List Res) (xs gs : Xs) (A : AkP) (fi fo : List Nat) : List Res := selI (fun k => fi.contains k) 0 L ++ ownsA (fun k => fo.contains k) xs gs A
set_option maxHeartbeats 1000000 in
theorem VC_drawQ {id : Nat} {l : List Oper} (m nL : Nat) (Ws Cs : List (List Nat)) (Ts : List T5) (fi fo : List Nat) (hmix : P.follows .mixedOrders = true) (hL : L.length = nL)
    (hok : (orderly l.toArray n && tablesOk l.toArray m Ws Cs && fivesOk m nL Cs Ts && Nat.ble m l.length && ((List.range nL).all fun k => fi.contains k == !takenB (Ts.map (·.2.1)) m (fun _ => true) k) && ((List.range m).all fun k => fo.contains k == !takenB (Ts.map (·.2.2.1)) m (fun _ => true) k)) = true)
    (hq : quietsP P n S w0 (zQ S w0 Q) l.toArray L (fun E A => ∀ xs gs : Xs, factsTP xs gs A → VL P n S w0 l.toArray (QN Q) (l.drop m) (E xs gs) (selI (fun k => fi.contains k) 0 L ++ ownsA (fun k => fo.contains k) xs gs A)) 0 (l.take m) Ts (fun _ _ => env) []) :
    VC P n S w0 (.region id l.toArray true) Q env L := by
  simp only [Bool.and_eq_true, List.all_eq_true, List.mem_range, beq_iff_eq] at hok
  obtain ⟨⟨⟨⟨⟨ho, ht⟩, h5⟩, hml⟩, hfi⟩, hfo⟩ := hok
  have hml' := Nat.le_of_ble_eq_true hml
  simp only [fivesOk, Bool.and_eq_true, List.all_eq_true, List.mem_range, beq_iff_eq] at h5
  obtain ⟨⟨hTl, htk⟩, h5⟩ := h5
  have hlm : (l.take m).length = m := by rw [List.length_take]; omega
  obtain ⟨sp, hs1, hs2, hs3⟩ := quietsP_spec (Cs := Cs) (env0 := env) (l.take m) Ts [] (fun i o hi => by
    rw [List.getElem?_take] at hi
    split at hi
    · simpa using hi
    · cases hi) (fun i hi => by
      have := (h5 i (by omega)).1.1.1.1.1
      rw [List.length_nil, Nat.zero_add]
      exact this) (by omega) hq
  simp only [List.nil_append, List.length_nil, Nat.zero_add] at hs2 hs3
  have hl : sp.length = m := by rw [hs1, hlm]
  have hak : ∀ (i : Nat) (q : Nat → Bool) (xs gs : Xs), i ≤ m → (∀ j, q j = true → j < i) → selO q (ownP sp Cs xs gs) 0 m = ownsA q xs gs (akP Cs 0 (sp.take i)) := by
    intro i q xs gs him hqi
    have h1 := ownsA_of (q := q) (Cs := Cs) (xs := xs) (gs := gs) (sp.take i) [] m (by rw [List.length_take]; omega)
    simp only [List.nil_append, List.length_nil] at h1
    rw [← h1]
    refine selO_congr m 0 (fun j _ _ => ⟨rfl, fun hj => ?_⟩)
    have hji := hqi j hj
    unfold ownP
    have : psAt sp j = psAt (sp.take i) j := by
      conv => lhs; rw [← List.take_append_drop i sp]
      exact psAt_left _ _ j (by rw [List.length_take]; omega)
    rw [this]
  refine VC_drawP m sp Ws Cs (Ts.map (·.2.1)) (Ts.map (·.2.2.1)) hmix (by simp only [Bool.and_eq_true]; exact ⟨⟨⟨ho, ht⟩, htk⟩, hml⟩) ?_ ?_
  · intro i o him hio xs gs hx
    have hti : lAt Cs i = (tAt Ts i).1 := (h5 i him).1.1.1.1.1.symm
    have hCi : ∀ j ∈ lAt Cs i, j < i := by
      intro j hj
      have ht' := ht
      simp only [tablesOk, Bool.and_eq_true, List.all_eq_true, List.mem_range, beq_iff_eq] at ht'
      have hil : i < l.length := by omega
      have hh := ht'.2 i (by simpa using hil)
      have hlen := ht'.1.1
      have hlen2 := ht'.1.2
      have hio2 : l.toArray[i]? = some o := by simpa using hio
      have hWi : Ws[i]? = some (Ws[i]'(by simp at hlen; omega)) := List.getElem?_eq_getElem _
      have hCi' : Cs[i]? = some (Cs[i]'(by simp at hlen2; omega)) := List.getElem?_eq_getElem _
      rw [hio2, hWi, hCi'] at hh
      simp only [Bool.and_eq_true, List.all_eq_true, beq_iff_eq] at hh
      rw [lAt_of hCi'] at hj
      exact Nat.le_of_ble_eq_true (hh.1.1.1.1 j hj)
    have hob := hs3 i o (by rw [List.getElem?_take, if_pos him]; exact hio) xs gs (factsAP_of (Cs := Cs) (sp.take i) [] (fun j _ hj hc => by
      have hji : j < i := by simp at hj; omega
      have := hx j (by simpa using hc)
      unfold factP at this ⊢
      rw [List.nil_append]
      have e : psAt sp j = psAt (sp.take i) j := by
        conv => lhs; rw [← List.take_append_drop i sp]
        exact psAt_left _ _ j (by rw [List.length_take]; omega)
      rwa [e] at this))
    obtain ⟨⟨⟨⟨⟨h51, h52⟩, h53⟩, h54⟩, h55⟩, h56⟩ := h5 i him
    have hTxo : ∀ j, (tAt Ts i).2.2.2.2.contains j = true → j < m := fun j hj => Nat.le_of_ble_eq_true (h56 j (by simpa using hj))
    have htO : ∀ j, (tAt Ts i).2.2.1.contains j = true → j < i := by
      intro j hj
      rw [h53] at hj
      simp only [takesOk, List.all_eq_true, List.mem_range, Bool.and_eq_true] at htk
      exact hCi j (by simpa using (htk i him).1.1 j (by simpa using hj))
    have htX : ∀ j, ((lAt Cs i).contains j && waitsB (Ts.map (·.2.2.1)) Cs m i j) = true → j < i := by
      intro j hj
      simp only [Bool.and_eq_true] at hj
      exact hCi j (by simpa using hj.1)
    have hpre : preP m Cs (Ts.map (·.2.1)) (Ts.map (·.2.2.1)) sp L i xs gs = selI (fun j => (tAt Ts i).2.1.contains j) 0 L ++ ownsA (fun j => (tAt Ts i).2.2.1.contains j) xs gs (akP Cs 0 (sp.take i)) := by
      unfold preP
      rw [← h52, ← h53, hak i _ xs gs (by omega) htO]
    have hctx : ctxP m Cs (Ts.map (·.2.1)) (Ts.map (·.2.2.1)) sp L i xs gs = selI (fun j => (tAt Ts i).2.2.2.1.contains j) 0 L ++ ownsA (fun j => (tAt Ts i).2.2.2.2.contains j) xs gs (akP Cs 0 (sp.take i)) := by
      unfold ctxP
      rw [← hak i (fun j => (tAt Ts i).2.2.2.2.contains j) xs gs (by omega) (fun j hj => by
        by_cases hjm : j < m
        · rw [h55 j hjm] at hj; exact htX j hj
        · exfalso
          exact hjm (hTxo j hj)), selI_congrL L 0 (fun k _ hk => h54 k (by omega))]
      congr 1
      exact (selO_congr m 0 (fun j _ hj => ⟨h55 j (by omega), fun _ => rfl⟩)).symm
    rw [hpre, hctx]
    exact hob
  · intro xs gs hx
    have h := hs2 xs gs (factsTP_of (Cs := Cs) sp [] (fun j _ hj => hx j (by simp at hj; omega)))
    rw [hl] at h
    have e : stP m Cs (Ts.map (·.2.1)) (Ts.map (·.2.2.1)) sp L (fun _ => true) xs gs = selI (fun k => fi.contains k) 0 L ++ ownsA (fun k => fo.contains k) xs gs (akP Cs 0 sp) := by
      unfold stP
      have h1 := ownsA_of (q := fun k => fo.contains k) (Cs := Cs) (xs := xs) (gs := gs) sp [] m (by omega)
      simp only [List.nil_append, List.length_nil] at h1
      rw [← h1, selI_congrL L 0 (fun k _ hk => hfi k (by omega))]
      congr 1
      refine (selO_congr m 0 (fun j _ hj => ⟨?_, fun _ => rfl⟩)).symm
      rw [hfo j (by omega)]
      rfl
    rw [e]
    exact h
end
end Go.PBYtngdppffcdhhlaa
