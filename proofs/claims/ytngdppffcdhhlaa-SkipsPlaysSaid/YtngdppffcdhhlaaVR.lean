/- A region that leaves its order open, walked as if it stood in order: what each operation comes to is told by what it waits for; what stands at its end waits for all and changes what is owned. No condition. -/
import Derived.Test.YtngdppffcdhhlaaVA
import Derived.Test.YtngdppffcdhhlaaPZ
namespace Go.PBYtngdppffcdhhlaa
open Go Go.RowKit
set_option linter.unusedSimpArgs false
set_option linter.unusedVariables false

/-- what a quiet operation comes to: a value; or any with this fact, that owns these -/
inductive Sp where
  | val (f : Value)
  | any (F : Value → Prop) (N : Value → List Res)
def Sp.fact : Sp → Value → Prop
  | .val f, v => v = f
  | .any F _, v => F v
def Sp.res : Sp → Value → List Res
  | .val _, _ => []
  | .any _ N, v => N v
def Sp.cur : Sp → Value → Value
  | .val f, _ => f
  | .any _ _, v => v
theorem Sp.cur_eq {s : Sp} {v : Value} (h : s.fact v) : s.cur v = v := by cases s with | val f => exact h.symm | any F N => rfl
/-- the values of those of C -/
def mask (C : List Nat) (xs : Nat → Value) (j : Nat) : Value := match C.contains j with | true => xs j | false => undef
/-- what an operation of a drawn region comes to: it may hang on what those of C came to -/
inductive SpX where
  | val (C : List Nat) (f : (Nat → Value) → Value)
  | any (C : List Nat) (F : (Nat → Value) → Value → Prop) (N : (Nat → Value) → Value → List Res)
def SpX.cl : SpX → List Nat
  | .val C _ => C
  | .any C _ _ => C
def SpX.at : SpX → (Nat → Value) → Sp
  | .val C f, xs => .val (f (mask C xs))
  | .any C F N, xs => .any (F (mask C xs)) (N (mask C xs))
theorem mask_congr {C : List Nat} {xs ys : Nat → Value} (h : ∀ j ∈ C, xs j = ys j) : mask C xs = mask C ys := by
  funext j
  unfold mask
  cases hc : C.contains j with
  | true => exact h j (by simpa using hc)
  | false => rfl
theorem SpX.at_congr {s : SpX} {xs ys : Nat → Value} (h : ∀ j ∈ s.cl, xs j = ys j) : s.at xs = s.at ys := by
  cases s with
  | val C f => show Sp.val (f (mask C xs)) = Sp.val (f (mask C ys)); rw [mask_congr (C := C) h]
  | any C F N => show Sp.any (F (mask C xs)) (N (mask C xs)) = Sp.any (F (mask C ys)) (N (mask C ys)); rw [mask_congr (C := C) h]
def spAt : List SpX → Nat → SpX
  | [], _ => .val [] fun _ => undef
  | s :: r, k => match k with | 0 => s | k + 1 => spAt r k

/-- a guard that is met, or is not -/
def gval (ops : Array Oper) (env : Env) (j : Nat) : Option Bool :=
  match ((ops[j]?).bind (·.dst)).bind (look · env) with
  | some (.bool b) => some b
  | _ => none
def Met (ops : Array Oper) (env : Env) : Option (Nat × Bool) → Prop
  | none => True
  | some (j, b) => gval ops env j = some b
/-- the guard's slot is known, and is not that -/
def gunm (ops : Array Oper) (env : Env) (j : Nat) (b : Bool) : Bool :=
  match ((ops[j]?).bind (·.dst)).bind (look · env) with
  | some (.bool x) => x != b
  | some _ => true
  | none => false
def Unmet (ops : Array Oper) (env : Env) : Option (Nat × Bool) → Prop
  | none => False
  | some (j, b) => gunm ops env j b = true
theorem gval_yielded {ops : Array Oper} {env : Env} {n : Nat} {a : Act} (hm : Models n env a) {j : Nat} {b : Bool} (h : gval ops env j = some b) : yielded ops a.tmps j = some b := by
  unfold gval at h
  unfold yielded
  cases hd : (ops[j]?).bind (·.dst) with
  | none => rw [hd] at h; simp at h
  | some d =>
    rw [hd] at h
    simp only [Option.bind_some] at h ⊢
    cases hl : look d env with
    | none => rw [hl] at h; simp at h
    | some v =>
      rw [hl] at h
      rw [hm.get d v hl]
      exact h
theorem Met.wanted {ops : Array Oper} {env : Env} {n : Nat} {a : Act} (hm : Models n env a) {o : Oper} (h : Met ops env o.guard) : Region.wanted o (yielded ops a.tmps) = true := by
  unfold Region.wanted
  cases hg : o.guard with
  | none => rfl
  | some p =>
    obtain ⟨j, b⟩ := p
    rw [hg] at h
    simp only
    rw [gval_yielded hm h]
    simp
theorem gunm_yielded {ops : Array Oper} {env : Env} {n : Nat} {a : Act} (hm : Models n env a) {j : Nat} {b : Bool} (h : gunm ops env j b = true) : (yielded ops a.tmps j == some b) = false := by
  unfold gunm at h
  unfold yielded
  cases hd : (ops[j]?).bind (·.dst) with
  | none => rw [hd] at h; simp at h
  | some d =>
    rw [hd] at h
    simp only [Option.bind_some] at h ⊢
    cases hl : look d env with
    | none => rw [hl] at h; simp at h
    | some v =>
      rw [hl] at h
      rw [hm.get d v hl]
      cases v with
      | bool x => cases x <;> cases b <;> first | rfl | cases h
      | _ => rfl
theorem Unmet.wanted {ops : Array Oper} {env : Env} {n : Nat} {a : Act} (hm : Models n env a) {o : Oper} (h : Unmet ops env o.guard) : Region.wanted o (yielded ops a.tmps) = false := by
  unfold Region.wanted
  cases hg : o.guard with
  | none => rw [hg] at h; exact h.elim
  | some p =>
    obtain ⟨j, b⟩ := p
    rw [hg] at h
    simp only
    exact gunm_yielded hm h

/-- What a quiet operation does. -/
structure QT (P : Program) (n : Nat) (S : List Nat) (w0 : World) (o : Oper) (env : Env) (L : List Res) (s : Sp) : Prop where
  run : ∀ a w, Models n env a → St S w0 L w → o.wp P a w (fun a' w' => ∃ v, a' = a.put o.dst v ∧ (o.dst = none → v = undef) ∧ s.fact v ∧ St [] w (s.res v) w') noQ
/-- .. or it is left out -/
def QG (P : Program) (n : Nat) (S : List Nat) (w0 : World) (ops : Array Oper) (o : Oper) (env : Env) (L : List Res) (s : Sp) : Prop :=
  (Met ops env o.guard ∧ QT P n S w0 o env L s) ∨ (Unmet ops env o.guard ∧ s = .val undef)

/-- the slots behind those that are waited for -/
def envR (ops : Array Oper) (sp : List SpX) (xs : Nat → Value) : List Nat → Env → Env
  | [], env => env
  | j :: r, env => envR ops sp xs r (ext ((ops[j]?).bind (·.dst)) (((spAt sp j).at xs).cur (xs j)) env)
/-- what those own that are done -/
def resR (xs : Nat → Value) (D : Nat → Bool) : Nat → List SpX → List Res
  | _, [] => []
  | k, s :: r => match D k with
    | true => (s.at xs).res (xs k) ++ resR xs D (k + 1) r
    | false => resR xs D (k + 1) r

theorem Models.envR {n : Nat} {ops : Array Oper} {sp : List SpX} {xs : Nat → Value} (hd : ∀ (j : Nat) (o : Oper), ops[j]? = some o → dstOk n o.dst = true) :
    ∀ (W : List Nat) {env : Env} {a : Act}, (∀ j ∈ W, ((spAt sp j).at xs).fact (xs j)) → Models n env a → Models n (envR ops sp xs W env) (frameOf ops xs W a)
  | [], env, a, _, h => h
  | j :: r, env, a, hf, h => by
    refine Models.envR hd r (fun k hk => hf k (by simp [hk])) ?_
    rw [Sp.cur_eq (hf j (by simp))]
    refine h.put ?_ _
    cases hj : ops[j]? with
    | none => rfl
    | some o => simpa using hd j o hj

theorem resR_sub {xs : Nat → Value} {D D' : Nat → Bool} (h : ∀ i, D i = true → D' i = true) : ∀ (sp : List SpX) (k : Nat), (resR xs D k sp).Sublist (resR xs D' k sp)
  | [], k => .slnil
  | s :: r, k => by
    have ih := resR_sub (xs := xs) h r (k + 1)
    unfold resR
    cases hk : D k with
    | true => rw [h k hk]; exact (List.Sublist.refl _).append ih
    | false =>
      cases hk' : D' k with
      | true => exact ih.trans (List.sublist_append_right _ _)
      | false => exact ih
theorem resR_congr {xs ys : Nat → Value} {D D' : Nat → Bool} : ∀ (sp : List SpX) (k : Nat), (∀ i, k ≤ i → i < k + sp.length → D i = D' i ∧ (D i = true → xs i = ys i ∧ ∀ j ∈ (spAt sp (i - k)).cl, xs j = ys j)) → resR xs D k sp = resR ys D' k sp
  | [], k, _ => rfl
  | s :: r, k, h => by
    have ih := resR_congr (xs := xs) (ys := ys) r (k + 1) (fun i h1 h2 => by
      have := h i (by omega) (by simp; omega)
      rw [show i - k = (i - (k + 1)) + 1 by omega] at this
      exact this)
    unfold resR
    have hk := h k (Nat.le_refl _) (by simp)
    rw [Nat.sub_self] at hk
    rw [← hk.1, ih]
    cases hd : D k with
    | true =>
      have h1 : s.at xs = s.at ys := SpX.at_congr (hk.2 hd).2
      rw [(hk.2 hd).1, h1]
    | false => rfl
theorem came_cl {xs : Nat → Value} {i : Nat} {v : Value} {s : SpX} (h : i ∉ s.cl) : s.at (came xs i v) = s.at xs :=
  SpX.at_congr fun j hj => by unfold came; rw [if_neg (by rintro rfl; exact h hj)]
theorem resR_add {xs : Nat → Value} {D : Nat → Bool} {i : Nat} {v : Value} (hi : D i = false) : ∀ (sp : List SpX) (k : Nat), (∀ j, k ≤ j → j < k + sp.length → (D j = true ∨ j = i) → i ∉ (spAt sp (j - k)).cl) → k ≤ i → i < k + sp.length →
    (resR xs D k sp ++ ((spAt sp (i - k)).at xs).res v).Perm (resR (came xs i v) (also D i) k sp)
  | [], k, _, h1, h2 => by simp at h2; omega
  | s :: r, k, hcl, h1, h2 => by
    have hcl' : ∀ j, k + 1 ≤ j → j < k + 1 + r.length → (D j = true ∨ j = i) → i ∉ (spAt r (j - (k + 1))).cl := fun j a b c => by
      have := hcl j (by omega) (by simp; omega) c
      rw [show j - k = (j - (k + 1)) + 1 by omega] at this
      exact this
    by_cases hk : k = i
    · subst hk
      have hc : resR (came xs k v) (also D k) (k + 1) r = resR xs D (k + 1) r := by
        refine resR_congr r (k + 1) (fun j hj hj2 => ⟨?_, fun hd => ⟨?_, fun q hq => ?_⟩⟩)
        · unfold also; have : (j == k) = false := by simp; omega
          rw [this]; rfl
        · unfold came; rw [if_neg (by omega)]
        · unfold came
          rw [if_neg]
          rintro rfl
          refine hcl' j hj hj2 (.inl ?_) hq
          unfold also at hd
          have hb : (j == q) = false := by simp; omega
          rw [hb] at hd
          exact hd
      unfold resR
      have ha : also D k k = true := by simp [also]
      have hv : came xs k v k = v := by simp [came]
      have hs0 := hcl k (Nat.le_refl _) (by simp) (.inr rfl)
      rw [Nat.sub_self] at hs0
      rw [ha, hi, hc, hv, Nat.sub_self, came_cl (s := s) hs0]
      exact List.perm_append_comm
    · have ih := resR_add (xs := xs) hi (v := v) r (k + 1) hcl' (by omega) (by simp at h2; omega)
      have e : i - k = (i - (k + 1)) + 1 := by omega
      rw [e]
      show ((match D k with | true => (s.at xs).res (xs k) ++ resR xs D (k + 1) r | false => resR xs D (k + 1) r) ++ ((spAt r (i - (k + 1))).at xs).res v).Perm (match also D i k with | true => (s.at (came xs i v)).res (came xs i v k) ++ resR (came xs i v) (also D i) (k + 1) r | false => resR (came xs i v) (also D i) (k + 1) r)
      have ha : also D i k = D k := by unfold also; have : (k == i) = false := by simp; exact hk
                                       rw [this]; rfl
      have hv : came xs i v k = xs k := by unfold came; rw [if_neg hk]
      rw [ha, hv]
      cases hDk : D k with
      | true =>
        have h0 := hcl k (Nat.le_refl _) (by simp) (.inl hDk)
        rw [Nat.sub_self] at h0
        rw [came_cl (s := s) h0]
        simp only [List.append_assoc]
        exact ih.append_left _
      | false => exact ih

/-- what is to be shown of the quiet ones, in the order of the text -/
def quiets (P : Program) (n : Nat) (S : List Nat) (w0 : World) (ops : Array Oper) (sp : List SpX) (env : Env) (L : List Res) : Nat → List Oper → List (List Nat) → List (List Nat) → Prop
  | k, o :: r, W :: Ws, C :: Cs => (∀ xs : Nat → Value, (∀ j ∈ C, ((spAt sp j).at xs).fact (xs j)) → QG P n S w0 ops o (envR ops sp xs W env) (resR xs (fun j => C.contains j) 0 sp ++ L) ((spAt sp k).at xs)) ∧ quiets P n S w0 ops sp env L (k + 1) r Ws Cs
  | _, [], _, _ => True
  | _, _, _, _ => False
theorem quiets_spec {P : Program} {n : Nat} {S : List Nat} {w0 : World} {ops : Array Oper} {sp : List SpX} {env : Env} {L : List Res} : ∀ (l : List Oper) (k : Nat) (Ws Cs : List (List Nat)), quiets P n S w0 ops sp env L k l Ws Cs →
    ∀ i o, l[i]? = some o → ∃ W C, Ws[i]? = some W ∧ Cs[i]? = some C ∧ ∀ xs : Nat → Value, (∀ j ∈ C, ((spAt sp j).at xs).fact (xs j)) → QG P n S w0 ops o (envR ops sp xs W env) (resR xs (fun j => C.contains j) 0 sp ++ L) ((spAt sp (k + i)).at xs)
  | [], k, _, _, _, i, o, h => by simp at h
  | x :: l, k, [], _, h, i, o, hi => by unfold quiets at h; exact h.elim
  | x :: l, k, W :: Ws, [], h, i, o, hi => by unfold quiets at h; exact h.elim
  | x :: l, k, W :: Ws, C :: Cs, h, 0, o, hi => by
    simp only [List.getElem?_cons_zero, Option.some.injEq] at hi
    subst hi
    exact ⟨W, C, rfl, rfl, h.1⟩
  | x :: l, k, W :: Ws, C :: Cs, h, i + 1, o, hi => by
    have := quiets_spec l (k + 1) Ws Cs h.2 i o (by simpa using hi)
    rwa [show k + 1 + i = k + (i + 1) by omega] at this

/-- The tables: what each waits for; what each waits for and what these wait for; those behind the first m wait for all. -/
def tablesOk (ops : Array Oper) (m : Nat) (Ws Cs : List (List Nat)) : Bool :=
  Ws.length == ops.size && Cs.length == ops.size &&
  (List.range ops.size).all fun i => match ops[i]?, Ws[i]?, Cs[i]? with
    | some o, some W, some C => (C.all fun j => Nat.ble (j + 1) i) && waits o == W && (W.all fun j => C.contains j) && (C.all fun j => W.contains j || C.any fun k => Nat.ble (j + 1) k && match ops[k]? with | some o' => (waits o').contains j | none => false) &&
        (match Nat.ble m i with | true => (List.range i).all fun j => C.contains j | false => true)
    | _, _, _ => false

theorem clos {ops : Array Oper} {m : Nat} {Ws Cs : List (List Nat)} (h : tablesOk ops m Ws Cs = true) (ho : ∀ (i : Nat) (o : Oper), ops[i]? = some o → ∀ j ∈ waits o, j < i) {i : Nat} {o : Oper} {C : List Nat} (hi : ops[i]? = some o) (hC : Cs[i]? = some C) {L : Nat → Bool}
    (hw : ∀ j ∈ waits o, L j = true) (hcl : ∀ (k : Nat) (ok : Oper), ops[k]? = some ok → L k = true → ∀ j ∈ waits ok, L j = true) : ∀ j ∈ C, L j = true := by
  simp only [tablesOk, Bool.and_eq_true, List.all_eq_true, List.mem_range] at h
  have hh := h.2 i (Array.getElem?_eq_some_iff.1 hi).1
  rw [hi] at hh
  cases hW : Ws[i]? with
  | none => rw [hW] at hh; simp at hh
  | some W =>
    rw [hW, hC] at hh
    simp only [Bool.and_eq_true, List.all_eq_true, beq_iff_eq] at hh
    obtain ⟨⟨⟨⟨h0, h1⟩, h2⟩, h3⟩, h4⟩ := hh
    subst h1
    have key : ∀ d j, ops.size - j = d → j ∈ C → L j = true := by
      intro d
      induction d using Nat.strongRecOn with
      | _ d ih =>
        intro j hd hj
        have := h3 j hj
        simp only [Bool.or_eq_true, List.any_eq_true, Bool.and_eq_true] at this
        rcases this with h | ⟨k, hk, hlt, hc⟩
        · exact hw j (by simpa using h)
        · have hlt' := Nat.le_of_ble_eq_true hlt
          cases hok : ops[k]? with
          | none => rw [hok] at hc; simp at hc
          | some ok =>
            rw [hok] at hc
            have hks := (Array.getElem?_eq_some_iff.1 hok).1
            exact hcl k ok hok (ih (ops.size - k) (by omega) k rfl hk) j (by simpa using hc)
    exact fun j hj => key _ j rfl hj

theorem spAt_of_le : ∀ (sp : List SpX) (k : Nat), sp.length ≤ k → spAt sp k = .val [] fun _ => undef
  | [], _, _ => rfl
  | s :: r, 0, h => by simp at h
  | s :: r, k + 1, h => spAt_of_le r k (by simpa using h)

/-- a frame in which all ahead have their values and one in which those have that are waited for look alike to an operation -/
theorem frames_alike {ops : Array Oper} {n : Nat} (ho : orderly ops n = true) {a0 : Act} (hn : a0.tmps.size = n) (vs : Nat → Value) {i : Nat} {o : Oper} (hi : ops[i]? = some o) {t : Tmp} (ht : t ∈ o.looksAt ops) :
    (frameOf ops vs (List.range i) a0).tmps[t]? = (frameOf ops vs (waits o) a0).tmps[t]? := by
  obtain ⟨hw1, hw2, hw3⟩ := orderly_spec ho hi
  by_cases hex : ∃ (j : Nat) (o' : Oper), ops[j]? = some o' ∧ o'.dst = some t
  · obtain ⟨j, o', hj, hd⟩ := hex
    have huniq : ∀ k, (ops[k]?).bind (·.dst) = some t → k = j := by
      intro k hk
      obtain ⟨ok, hk1, hk2⟩ := Option.bind_eq_some_iff.1 hk
      exact ((orderly_spec ho hj).2.1 t hd).2 k ok hk1 hk2
    have hda : (ops[j]?).bind (·.dst) = some t := by rw [hj]; exact hd
    have htn := ((orderly_spec ho hj).2.1 t hd).1
    have hno : ∀ (l : List Nat), j ∉ l → (frameOf ops vs l a0).tmps[t]? = a0.tmps[t]? := fun l hl =>
      frameOf_other vs t l a0 (fun k hk hkd => hl (huniq k hkd ▸ hk))
    rcases hw3 j o' t hj hd ht with h | h | h
    · have hji := hw1 j h
      rw [frameOf_at vs t j hda huniq (List.range i) a0 (by rw [hn]; exact htn) (.inr (List.mem_range.2 hji)),
        frameOf_at vs t j hda huniq (waits o) a0 (by rw [hn]; exact htn) (.inr h)]
    · subst h
      rw [hno _ (by simp), hno _ (fun h => by have := hw1 j h; omega)]
    · have hji := (orderly_spec ho hj).1 i h
      rw [hno _ (by simp; omega), hno _ (fun h => by have := hw1 j h; omega)]
  · have hno : ∀ (l : List Nat), (frameOf ops vs l a0).tmps[t]? = a0.tmps[t]? := fun l =>
      frameOf_other vs t l a0 (fun k _ hkd => by
        obtain ⟨ok, hk1, hk2⟩ := Option.bind_eq_some_iff.1 hkd
        exact hex ⟨k, ok, hk1, hk2⟩)
    rw [hno, hno]
theorem wp_alike {ops : Array Oper} {n : Nat} (ho : orderly ops n = true) {a0 : Act} (hn : a0.tmps.size = n) (vs : Nat → Value) {i : Nat} {o : Oper} (hi : ops[i]? = some o) :
    execOp (frameOf ops vs (List.range i) a0).eval o = execOp (frameOf ops vs (waits o) a0).eval o ∧
    Region.wanted o (yielded ops (frameOf ops vs (List.range i) a0).tmps) = Region.wanted o (yielded ops (frameOf ops vs (waits o) a0).tmps) := by
  have hsel : ∀ cs b, o.op ≠ .select cs b := by
    intro cs b
    have ho' := ho
    simp only [orderly, Bool.and_eq_true] at ho'
    exact Region.noSelect_spec ho'.1 i o cs b hi
  constructor
  · refine execOp_congr o hsel (fun x hx => ?_)
    cases x with
    | tmp t =>
      have := frames_alike ho hn vs hi (t := t) (by unfold Oper.looksAt; exact List.mem_append.2 (.inl (List.mem_filterMap.2 ⟨_, Array.mem_toList_iff.2 hx, rfl⟩)))
      simp only [Act.eval, Array.getD_eq_getD_getElem?, this]
    | const v => rfl
    | global g => rfl
    | func f => rfl
  · unfold Region.wanted
    cases hg : o.guard with
    | none => rfl
    | some p =>
      obtain ⟨j, b⟩ := p
      simp only
      congr 1
      unfold yielded
      cases hd : (ops[j]?).bind (·.dst) with
      | none => rfl
      | some d =>
        have := frames_alike ho hn vs hi (t := d) (by unfold Oper.looksAt; rw [hg]; simp only [hd]; exact List.mem_append.2 (.inr (by simp)))
        simp only [Option.bind_some, this]

/-! ### the rule -/
def QN (Q : QE) : QE
  | .normal, env, L => Q .normal env L
  | .panic ch, _, L => ∀ env, Q (.panic ch) env L
  | _, _, _ => False
/-- where it panics -/
def zQ (S : List Nat) (w0 : World) (Q : QE) : List PanicEntry → World → Prop := fun ch w => ∃ L, St S w0 L w ∧ ∀ env, Q (.panic ch) env L
section
variable {P : Program} {n : Nat} {S : List Nat} {w0 : World} {Q : QE} {env : Env} {L : List Res}
theorem no_out : ¬ LetsOut (lift n S w0 (QN Q)) := by
  rintro ⟨a, w, env, L, _, _, h⟩
  exact h
theorem no_panic {chain : List PanicEntry} {a : Act} {w : World} (hd : a.defers ≠ []) : ¬ lift n S w0 (QN Q) (.panic chain) a w := by
  rintro ⟨env, L, hm, _, _⟩
  exact hd hm.defers
theorem put_defs (a : Act) (x : Option Tmp) (v : Value) : (a.put x v).defers = a.defers := by cases x <;> rfl
theorem no_defers {ops : Array Oper} : ∀ (rest : List Oper) (a : Act) (w : World), a.defers ≠ [] → ¬ wpList P ops (lift n S w0 (QN Q)) rest a w
  | [], a, w, hd, h => by
    obtain ⟨env, L, hm, _, _⟩ := h
    exact hd hm.defers
  | o :: rest, a, w, hd, h => by
    unfold wpList at h
    split at h
    · rcases h with h | ⟨_, h⟩
      · unfold Oper.wp at h
        cases hr : (execOp a.eval o).run P w with
        | ok x w' =>
          rw [hr] at h
          cases x <;> simp only [Oper.upon] at h <;> first | exact h.elim | skip
          case value v => exact no_defers rest _ _ (by rw [put_defs]; exact hd) h
          case skip => exact no_defers rest _ _ (by rw [put_defs]; exact hd) h
          case defer d => exact no_defers rest _ _ (by rw [put_defs]; simp) h
          case enter f args =>
            obtain ⟨e, w2, fr, h1, _⟩ := h []
            cases e with
            | returned v => exact no_defers rest _ _ (by rw [put_defs]; exact hd) h1
            | panicked c => exact no_panic hd h1
            | outgrown => exact no_out h1
          case row s args =>
            obtain ⟨v, w2, h1, _⟩ := h default []
            exact no_defers rest _ _ (by rw [put_defs]; exact hd) h1
        | halt x w' =>
          rw [hr] at h
          cases x <;> simp only [Oper.upon] at h <;> first | exact h.elim | exact no_panic hd h
      · exact no_out h
    · exact no_defers rest _ _ (by rw [put_defs]; exact hd) h
theorem upon_zQ {o : Oper} {a : Act} {K : Act → World → Prop} {r : Result Next} (h : o.upon P a K (lift n S w0 (QN Q)) r) : o.upon P a K (pQ (zQ S w0 Q)) r := by
  cases r with
  | ok x w =>
    cases x <;> simp only [Oper.upon] at h ⊢ <;> first | exact h | skip
    refine h.mono ?_
    intro e w' h'
    cases e with
    | returned v => exact h'
    | panicked c => obtain ⟨env, L, _, h1, h2⟩ := h'; exact ⟨L, h1, h2⟩
    | outgrown => exact (no_out h').elim
  | halt x w =>
    cases x <;> simp only [Oper.upon] at h ⊢ <;> first | exact h | skip
    obtain ⟨env, L, _, h1, h2⟩ := h
    exact ⟨L, h1, h2⟩
theorem frameOf_append {ops : Array Oper} (vs : Nat → Value) : ∀ (l m : List Nat) (a : Act), frameOf ops vs (l ++ m) a = frameOf ops vs m (frameOf ops vs l a)
  | [], _, _ => rfl
  | j :: l, m, a => frameOf_append vs l m _
theorem frameOf_congr {ops : Array Oper} {vs us : Nat → Value} : ∀ (l : List Nat) (a : Act), (∀ j ∈ l, vs j = us j) → frameOf ops vs l a = frameOf ops us l a
  | [], _, _ => rfl
  | j :: l, a, h => by
    unfold frameOf
    rw [h j (by simp)]
    exact frameOf_congr l _ (fun k hk => h k (by simp [hk]))

set_option maxHeartbeats 1000000 in
theorem VC_draw {id : Nat} {l : List Oper} (m : Nat) (sp : List SpX) (Ws Cs : List (List Nat)) (hmix : P.follows .mixedOrders = true)
    (hok : (orderly l.toArray n && tablesOk l.toArray m Ws Cs && (sp.length == m) && Nat.ble m l.length) = true)
    (hcl : ∀ (i : Nat) (C : List Nat), Cs[i]? = some C → ∀ j ∈ (spAt sp i).cl, j ∈ C)
    (hq : quiets P n S w0 l.toArray sp env L 0 (l.take m) Ws Cs)
    (hfin : ∀ xs : Nat → Value, (∀ j, j < m → ((spAt sp j).at xs).fact (xs j)) → VL P n S w0 l.toArray (QN Q) (l.drop m) (envR l.toArray sp xs (List.range m) env) (resR xs (fun _ => true) 0 sp ++ L)) :
    VC P n S w0 (.region id l.toArray true) Q env L := by
  simp only [Bool.and_eq_true, beq_iff_eq] at hok
  obtain ⟨⟨⟨ho, ht⟩, hsl⟩, hml⟩ := hok
  have hml := Nat.le_of_ble_eq_true hml
  refine ⟨fun a0 w hmod H => ?_⟩
  have hn := hmod.size
  have hlt : ∀ (i : Nat) (o : Oper), l.toArray[i]? = some o → ∀ j ∈ waits o, j < i := fun i o hi => (orderly_spec ho hi).1
  have hdst : ∀ (j : Nat) (o : Oper), l.toArray[j]? = some o → dstOk n o.dst = true := by
    intro j o hj
    cases hd : o.dst with
    | none => rfl
    | some d => exact Nat.ble_eq_true_of_le (((orderly_spec ho hj).2.1 d hd).1)
  have htab : ∀ (i : Nat) (o : Oper), l.toArray[i]? = some o → ∃ W C, Ws[i]? = some W ∧ Cs[i]? = some C ∧ waits o = W ∧ (∀ j ∈ W, j ∈ C) ∧ (m ≤ i → ∀ j, j < i → j ∈ C) := by
    intro i o hi
    have ht' := ht
    simp only [tablesOk, Bool.and_eq_true, List.all_eq_true, List.mem_range] at ht'
    have hh := ht'.2 i (Array.getElem?_eq_some_iff.1 hi).1
    rw [hi] at hh
    cases hW : Ws[i]? with
    | none => rw [hW] at hh; simp at hh
    | some W =>
      cases hC : Cs[i]? with
      | none => rw [hW, hC] at hh; simp at hh
      | some C =>
        rw [hW, hC] at hh
        simp only [Bool.and_eq_true, List.all_eq_true, beq_iff_eq] at hh
        obtain ⟨⟨⟨⟨h0, h1⟩, h2⟩, h3⟩, h4⟩ := hh
        refine ⟨W, C, rfl, rfl, h1, fun j hj => by simpa using h2 j hj, fun hmi j hj => ?_⟩
        rw [Nat.ble_eq_true_of_le hmi] at h4
        simp only [List.all_eq_true, List.mem_range] at h4
        simpa using h4 j hj
  let Qf := lift n S w0 (QN Q)
  let C : (Nat → Bool) → (Nat → Value) → World → Prop := fun D xs w =>
    (∀ i, i < m → D i = true → ((spAt sp i).at xs).fact (xs i)) ∧
    ((D m = false ∧ St S w0 (resR xs D 0 sp ++ L) w) ∨
      ∃ t, 1 ≤ t ∧ m + t ≤ l.length ∧ (∀ i, m ≤ i → i < l.length → D i = decide (i < m + t)) ∧ wpList P l.toArray Qf (l.drop (m + t)) (frameOf l.toArray xs (List.range (m + t)) a0) w)
  -- the tail's beginning
  have hbegin : ∀ (D : Nat → Bool) (xs : Nat → Value) (w : World), (∀ j, j < m → D j = true) → (∀ i, i < m → D i = true → ((spAt sp i).at xs).fact (xs i)) → St S w0 (resR xs D 0 sp ++ L) w →
      wpList P l.toArray Qf (l.drop m) (frameOf l.toArray xs (List.range m) a0) w := by
    intro D xs w hD hF Hs
    have hfs : ∀ j, j < m → ((spAt sp j).at xs).fact (xs j) := fun j hj => hF j hj (hD j hj)
    have e : resR xs D 0 sp = resR xs (fun _ => true) 0 sp := resR_congr sp 0 (fun i _ hi => ⟨hD i (by omega), fun _ => ⟨rfl, fun _ _ => rfl⟩⟩)
    rw [e] at Hs
    exact (hfin xs hfs).run _ w (Models.envR hdst _ (fun j hj => hfs j (List.mem_range.1 hj)) hmod) Hs
  -- where the tail stands
  have htail : ∀ (D : Nat → Bool) (xs : Nat → Value) (w : World) (i : Nat), m ≤ i → i ≤ l.length → (∀ j, j < i → D j = true) → (i < l.length → D i = false) → C D xs w →
      wpList P l.toArray Qf (l.drop i) (frameOf l.toArray xs (List.range i) a0) w := by
    intro D xs w i h1 h2 hD hi hC
    obtain ⟨hF, hC⟩ := hC
    by_cases hmi : i = m
    · subst hmi
      rcases hC with ⟨_, Hs⟩ | ⟨t, ht1, ht2, ht3, _⟩
      · exact hbegin D xs w hD hF Hs
      · have := ht3 i (Nat.le_refl _) (by omega)
        rw [hi (by omega)] at this
        simp at this
        omega
    · rcases hC with ⟨hm0, _⟩ | ⟨t, ht1, ht2, ht3, hw⟩
      · rw [hD m (by omega)] at hm0; cases hm0
      · have ha := ht3 (i - 1) (by omega) (by omega)
        rw [hD (i - 1) (by omega)] at ha
        have ha' : i - 1 < m + t := by simpa using ha.symm
        have hb : m + t = i := by
          by_cases hil : i < l.length
          · have hb := ht3 i (by omega) hil
            rw [hi hil] at hb
            have hb' : ¬ (i < m + t) := by simpa using hb.symm
            omega
          · omega
        rw [hb] at hw
        exact hw
  refine wp_region_factsZ (C := C) (F := fun _ _ _ => True) (Z := zQ S w0 Q) hmix ho hn (fun ch a w hs hd ⟨M, h1, h2⟩ => ⟨[], M, ⟨hs, hd.trans hmod.defers, fun t v h => by cases h⟩, h1, h2 []⟩) (fun vs => ⟨fun i _ h => absurd h Bool.false_ne_true, .inl ⟨rfl, ?_⟩⟩) ?_ ?_
  · have e : ∀ (s : List SpX) (k : Nat), resR vs (fun _ => false) k s = [] := by
      intro s
      induction s with
      | nil => intro k; rfl
      | cons x s ih => intro k; unfold resR; exact ih (k + 1)
    rw [e, List.nil_append]
    exact H.drew
  · intro i o hio D xs w hDi hDw hcl2 hC _
    have hil : i < l.length := by simpa using (Array.getElem?_eq_some_iff.1 hio).1
    obtain ⟨W, Cl, hW, hCl, hWo, hWC, htl⟩ := htab i o hio
    have hClD : ∀ j ∈ Cl, D j = true := clos ht hlt hio hCl hDw hcl2
    -- those that are done wait for none that is not
    have hup : ∀ (k : Nat) (ok : Oper), l.toArray[k]? = some ok → D k = true → m ≤ k → i < k → False := by
      intro k ok hk hDk hmk hik
      obtain ⟨Wk, Ck, hWk, hCk, hWok, hWCk, htlk⟩ := htab k ok hk
      have := clos ht hlt hk hCk (hcl2 k ok hk hDk) hcl2 i (htlk hmk i hik)
      rw [hDi] at this
      cases this
    by_cases him : i < m
    · -- a quiet one
      obtain ⟨hF, hCC⟩ := hC
      have hDm : D m = false ∧ St S w0 (resR xs D 0 sp ++ L) w := by
        rcases hCC with h | ⟨t, ht1, ht2, ht3, _⟩
        · exact h
        · exfalso
          have h0 := ht3 m (Nat.le_refl _) (by omega)
          have hDm : D m = true := by rw [h0]; simp; omega
          have hmo : l.toArray[m]? = some (l[m]'(by omega)) := by simp
          exact hup m _ hmo hDm (Nat.le_refl _) him
      obtain ⟨hDm, Hs⟩ := hDm
      obtain ⟨W', C', hW', hC', hobl⟩ := quiets_spec (l.take m) 0 Ws Cs hq i o (by
        rw [List.getElem?_take, if_pos him]
        simpa using hio)
      rw [Nat.zero_add] at hobl
      rw [hW] at hW'
      rw [hCl] at hC'
      obtain rfl := Option.some.inj hW'
      obtain rfl := Option.some.inj hC'
      have hClm : ∀ j ∈ Cl, j < m := by
        intro j hj
        have hDj := hClD j hj
        by_cases hjm : j < m
        · exact hjm
        · exfalso
          by_cases hjl : j < l.length
          · have hjo : l.toArray[j]? = some (l[j]'hjl) := by simp [hjl]
            exact hup j _ hjo hDj (by omega) (by omega)
          · have ht' := ht
            simp only [tablesOk, Bool.and_eq_true, List.all_eq_true, List.mem_range] at ht'
            have hh := ht'.2 i (by simpa using hil)
            rw [hio, hW, hCl] at hh
            simp only [Bool.and_eq_true, List.all_eq_true, beq_iff_eq] at hh
            have h3 := hh.1.2 j hj
            simp only [Bool.or_eq_true, List.any_eq_true, Bool.and_eq_true] at h3
            rcases h3 with h | ⟨k, hk, hlt2, hc⟩
            · have : j ∈ waits o := by rw [hWo]; simpa using h
              have := hlt i o hio j this
              omega
            · cases hok : l.toArray[k]? with
              | none => rw [hok] at hc; simp at hc
              | some ok =>
                rw [hok] at hc
                have := hlt k ok hok j (by simpa using hc)
                have hkl : k < l.length := by simpa using (Array.getElem?_eq_some_iff.1 hok).1
                omega
      have hfacts : ∀ j ∈ Cl, ((spAt sp j).at xs).fact (xs j) := fun j hj => hF j (hClm j hj) (hClD j hj)
      have hobl := hobl xs hfacts
      have hmw : Models n (envR l.toArray sp xs W env) (frameOf l.toArray xs (waits o) a0) := by
        rw [hWo]
        exact Models.envR hdst W (fun j hj => hfacts j (hWC j hj)) hmod
      have Hs' : St S w0 (resR xs (fun j => Cl.contains j) 0 sp ++ L) w := Hs.sub ((resR_sub (fun j hj => hClD j (by simpa using hj)) sp 0).append (List.Sublist.refl _))
      have hncl : ∀ k, (D k = true ∨ k = i) → k < m → i ∉ (spAt sp k).cl := by
        intro k hk hkm hin
        have hkl : k < l.length := by omega
        have hko : l.toArray[k]? = some (l[k]'hkl) := by simp [hkl]
        obtain ⟨Wk, Ck, hWk, hCk, hWok, hWCk, htlk⟩ := htab k _ hko
        have hiC := hcl k Ck hCk i hin
        rcases hk with hk | hk
        · have := clos ht hlt hko hCk (hcl2 k _ hko hk) hcl2 i hiC
          rw [hDi] at this
          cases this
        · subst hk
          rw [hCl] at hCk
          obtain rfl := Option.some.inj hCk
          have := hClD k hiC
          rw [hDi] at this
          cases this
      have hnew : ∀ v w', ((spAt sp i).at xs).fact v → St S w0 ((resR xs D 0 sp ++ L) ++ ((spAt sp i).at xs).res v) w' → C (also D i) (came xs i v) w' := by
        intro v w' hv Hn
        refine ⟨?_, .inl ⟨?_, ?_⟩⟩
        · intro k hk hDk
          by_cases hki : k = i
          · subst hki
            rw [came_cl (hncl k (.inr rfl) hk)]
            simp only [came, if_true]; exact hv
          · have : came xs i v k = xs k := by unfold came; rw [if_neg hki]
            have hDk' : D k = true := by
              unfold also at hDk
              have hb : (k == i) = false := by simp [hki]
              rw [hb] at hDk
              exact hDk
            rw [this, came_cl (hncl k (.inl hDk') hk)]
            refine hF k hk ?_
            unfold also at hDk
            have hb : (k == i) = false := by simp [hki]
            rw [hb] at hDk
            exact hDk
        · unfold also
          have hb : (m == i) = false := by simp; omega
          rw [hb, hDm]
          rfl
        · have hp := resR_add (xs := xs) (D := D) hDi (v := v) sp 0 (fun j _ hj hd => by rw [Nat.sub_zero]; exact hncl j hd (by omega)) (Nat.zero_le _) (by omega)
          rw [Nat.sub_zero] at hp
          refine Hn.perm ?_
          refine List.Perm.trans ?_ (hp.append_right L)
          rw [List.append_assoc, List.append_assoc]
          exact List.perm_append_comm.append_left _
      rcases hobl with ⟨hmet, hqt⟩ | ⟨hun, hsp⟩
      · rw [if_pos (hmet.wanted hmw)]
        have hwp := hqt.run _ w hmw Hs'
        unfold Oper.wp at hwp ⊢
        refine upon_imp hwp ?_ ?_
        · rintro v w' ⟨u, h1, h2, h3, h4⟩
          have hu := put_value (o := o) (n := n) (fun d hd => ((orderly_spec ho hio).2.1 d hd).1) (by rw [frameOf_size]; exact hn) h1 h2
          rw [hu]
          refine ⟨by rw [h1, put_defs, frameOf_defers], hnew u w' h3 (Hs.join h4), fun _ _ _ => trivial, trivial⟩
        · rintro d w' ⟨u, h1, _⟩
          have h5 := congrArg Act.defers h1
          rw [put_defs, put_defs] at h5
          have h6 := congrArg List.length h5
          simp at h6
      · rw [hun.wanted hmw]
        simp only [Bool.false_eq_true, if_false]
        refine ⟨hnew undef w ?_ ?_, trivial⟩
        · rw [hsp]; rfl
        · rw [hsp]; simpa [Sp.res] using Hs
    · -- one of the tail
      have hall : ∀ j, j < i → D j = true := fun j hj => hClD j (htl (by omega) j hj)
      have hw := htail D xs w i (by omega) (by omega) hall (fun _ => hDi) hC
      have hdrop : l.drop i = o :: l.drop (i + 1) := by
        rw [List.drop_eq_getElem_cons hil]
        congr 1
        have h1 : l[i]? = some o := by simpa using hio
        exact (List.getElem?_eq_some_iff.1 h1).2
      rw [hdrop] at hw
      obtain ⟨hex, hwa⟩ := wp_alike ho hn xs hio
      have hnew : ∀ v w', (o.dst = none → v = undef) → wpList P l.toArray Qf (l.drop (i + 1)) ((frameOf l.toArray xs (List.range i) a0).put o.dst v) w' → C (also D i) (came xs i v) w' := by
        intro v w' hv hk
        have hne : ∀ k, k ≠ i → also D i k = D k := by
          intro k hk
          unfold also
          have hb : (k == i) = false := by simp [hk]
          rw [hb]; rfl
        refine ⟨?_, .inr ⟨i - m + 1, by omega, by omega, ?_, ?_⟩⟩
        · intro k hk hDk
          have hki : k ≠ i := by omega
          have : came xs i v k = xs k := by unfold came; rw [if_neg hki]
          have hicl : i ∉ (spAt sp k).cl := by
            intro hin
            have hkl : k < l.length := by omega
            have hko : l.toArray[k]? = some (l[k]'hkl) := by simp [hkl]
            obtain ⟨Wk, Ck, hWk, hCk, _, _, _⟩ := htab k _ hko
            have hiC := hcl k Ck hCk i hin
            rw [hne k hki] at hDk
            have := clos ht hlt hko hCk (hcl2 k _ hko hDk) hcl2 i hiC
            rw [hDi] at this
            cases this
          rw [this, came_cl hicl]
          rw [hne k hki] at hDk
          exact hC.1 k hk hDk
        · intro k hmk hkl
          by_cases hki : k = i
          · subst hki
            have : also D k k = true := by simp [also]
            rw [this]; symm; simp; omega
          · rw [hne k hki]
            by_cases hlt' : k < i
            · rw [hall k hlt']; symm; simp; omega
            · have hDk : D k = false := by
                cases hd : D k with
                | false => rfl
                | true =>
                  have hko : l.toArray[k]? = some (l[k]'hkl) := by simp [hkl]
                  exact (hup k _ hko hd hmk (by omega)).elim
              rw [hDk]; symm; simp; omega
        · rw [show m + (i - m + 1) = i + 1 by omega, List.range_succ, frameOf_append]
          have e1 : frameOf l.toArray (came xs i v) (List.range i) a0 = frameOf l.toArray xs (List.range i) a0 :=
            frameOf_congr _ _ (fun j hj => by unfold came; rw [if_neg (by have := List.mem_range.1 hj; omega)])
          rw [e1]
          have e2 : (l.toArray[i]?).bind (·.dst) = o.dst := by rw [hio]; rfl
          have e3 : came xs i v i = v := by simp [came]
          show wpList P l.toArray Qf _ ((frameOf l.toArray xs (List.range i) a0).put ((l.toArray[i]?).bind (·.dst)) (came xs i v i)) w'
          rw [e2, e3]
          exact hk
      unfold wpList at hw
      rw [hwa] at hw
      split
      · rename_i hwt
        rw [if_pos hwt] at hw
        rcases hw with hw | ⟨_, hw⟩
        · unfold Oper.wp at hw ⊢
          rw [hex] at hw
          refine upon_impZ (upon_zQ hw) ?_ (fun _ _ h => h) ?_
          · intro v w' hk
            have hsz : ∀ d, o.dst = some d → d < n := fun d hd => ((orderly_spec ho hio).2.1 d hd).1
            cases hd : o.dst with
            | none =>
              rw [hd] at hk
              have hv : valOf o ((frameOf l.toArray xs (waits o) a0).put none v) = undef := by unfold valOf; rw [hd]
              rw [hv]
              exact ⟨by rw [put_defs, frameOf_defers], hnew undef w' (fun _ => rfl) (by rw [hd]; exact hk), fun _ _ _ => trivial, trivial⟩
            | some d =>
              have hv : valOf o ((frameOf l.toArray xs (waits o) a0).put (some d) v) = v := by
                unfold valOf
                rw [hd]
                exact put_getD_same (by rw [frameOf_size, hn]; exact hsz d hd)
              rw [hv]
              exact ⟨by rw [put_defs, frameOf_defers], hnew v w' (fun h => by rw [hd] at h; cases h) hk, fun _ _ _ => trivial, trivial⟩
          · intro d w' hk
            exact no_defers _ _ _ (by rw [put_defs]; simp) hk
        · exact (no_out hw).elim
      · rename_i hwt
        rw [if_neg hwt] at hw
        exact ⟨hnew undef w (fun _ => rfl) hw, trivial⟩
  · intro D xs w hD hC _
    have hw := htail D xs w l.length hml (Nat.le_refl _) (fun j hj => hD j (by simpa using hj)) (fun h => absurd h (Nat.lt_irrefl _)) hC
    rw [List.drop_length] at hw
    obtain ⟨env', L', h1, h2, h3⟩ := hw
    refine ⟨env', L', ?_, h2, h3⟩
    simpa using h1

theorem spAt_left : ∀ (a b : List SpX) (j : Nat), j < a.length → spAt (a ++ b) j = spAt a j
  | [], b, j, h => by simp at h
  | s :: a, b, 0, h => rfl
  | s :: a, b, j + 1, h => spAt_left a b j (by simpa using h)
theorem spAt_last : ∀ (a : List SpX) (s : SpX) (b : List SpX), spAt (a ++ s :: b) a.length = s
  | [], s, b => rfl
  | x :: a, s, b => spAt_last a s b
theorem envR_left {ops : Array Oper} {xs : Nat → Value} (a b : List SpX) : ∀ (W : List Nat) (env : Env), (∀ j ∈ W, j < a.length) → envR ops (a ++ b) xs W env = envR ops a xs W env
  | [], env, _ => rfl
  | j :: W, env, h => by
    unfold envR
    rw [spAt_left a b j (h j (by simp))]
    exact envR_left a b W _ (fun k hk => h k (by simp [hk]))
theorem resR_none {xs : Nat → Value} {D : Nat → Bool} : ∀ (b : List SpX) (k : Nat), (∀ j, k ≤ j → D j = false) → resR xs D k b = []
  | [], k, _ => rfl
  | s :: b, k, h => by
    unfold resR
    rw [h k (Nat.le_refl _)]
    exact resR_none b (k + 1) (fun j hj => h j (by omega))
theorem resR_left {xs : Nat → Value} {D : Nat → Bool} : ∀ (a b : List SpX) (k : Nat), (∀ j, k + a.length ≤ j → D j = false) → resR xs D k (a ++ b) = resR xs D k a
  | [], b, k, h => by rw [List.nil_append, resR_none b k (by simpa using h)]; rfl
  | s :: a, b, k, h => by
    have ih := resR_left (xs := xs) a b (k + 1) (fun j hj => h j (by simp; omega))
    show (match D k with | true => (s.at xs).res (xs k) ++ resR xs D (k + 1) (a ++ b) | false => resR xs D (k + 1) (a ++ b)) = (match D k with | true => (s.at xs).res (xs k) ++ resR xs D (k + 1) a | false => resR xs D (k + 1) a)
    rw [ih]
/-! ### all of the quiet ones come to values: they are walked in the order of the text -/
def quietsV (P : Program) (n : Nat) (S : List Nat) (w0 : World) (ops : Array Oper) (L : List Res) (F : Env → Prop) : List Oper → Env → Prop
  | [], env => F env
  | o :: r, env => ∃ f, QG P n S w0 ops o env L (.val f) ∧ quietsV P n S w0 ops L F r (ext o.dst f env)
def valsOf (fs : List Value) : List SpX := fs.map fun f => .val [] fun _ => f
theorem spAt_vals : ∀ (fs : List Value) (j : Nat), spAt (valsOf fs) j = .val [] fun _ => fs.getD j undef
  | [], j => rfl
  | f :: fs, 0 => rfl
  | f :: fs, j + 1 => by
    show spAt (valsOf fs) j = _
    rw [spAt_vals fs j]
    simp
theorem look_other {ops : Array Oper} {sp : List SpX} {xs : Nat → Value} {t : Tmp} : ∀ (W : List Nat) (env : Env), (∀ j ∈ W, (ops[j]?).bind (·.dst) ≠ some t) → look t (envR ops sp xs W env) = look t env
  | [], env, _ => rfl
  | j :: W, env, h => by
    unfold envR
    rw [look_other W _ (fun k hk => h k (by simp [hk]))]
    have hj := h j (by simp)
    cases hd : (ops[j]?).bind (·.dst) with
    | none => rfl
    | some d =>
      rw [hd] at hj
      show look t ((d, _) :: env) = _
      rw [look_cons, if_neg (by intro e; exact hj (by rw [e]))]
theorem look_at {ops : Array Oper} {sp : List SpX} {xs : Nat → Value} {t : Tmp} {j : Nat} (hd : (ops[j]?).bind (·.dst) = some t) (hu : ∀ k, (ops[k]?).bind (·.dst) = some t → k = j) : ∀ (W : List Nat) (env : Env), (j ∈ W ∨ look t env = some (((spAt sp j).at xs).cur (xs j))) → look t (envR ops sp xs W env) = some (((spAt sp j).at xs).cur (xs j))
  | [], env, h => by rcases h with h | h; (· simp at h); (· exact h)
  | k :: W, env, h => by
    unfold envR
    refine look_at hd hu W _ ?_
    by_cases hkj : k = j
    · subst hkj
      right
      rw [hd]
      show look t ((t, _) :: env) = _
      rw [look_cons, if_pos rfl]
    · rcases h with h | h
      · left
        rcases List.mem_cons.1 h with h | h
        · exact absurd h.symm hkj
        · exact h
      · right
        cases hk : (ops[k]?).bind (·.dst) with
        | none => exact h
        | some d =>
          show look t ((d, _) :: env) = _
          rw [look_cons, if_neg (by intro e; exact hkj (hu k (by rw [hk, e])))]
          exact h
theorem quietsV_spec {ops : Array Oper} {F : Env → Prop} {env0 : Env} : ∀ (r : List Oper) (fs : List Value), (∀ i o, r[i]? = some o → ops[fs.length + i]? = some o) →
    quietsV P n S w0 ops L F r (envR ops (valsOf fs) (fun _ => undef) (List.range fs.length) env0) →
    ∃ gs : List Value, gs.length = r.length ∧ F (envR ops (valsOf (fs ++ gs)) (fun _ => undef) (List.range (fs ++ gs).length) env0) ∧
      ∀ i o, r[i]? = some o → QG P n S w0 ops o (envR ops (valsOf (fs ++ gs)) (fun _ => undef) (List.range (fs.length + i)) env0) L (.val ((fs ++ gs).getD (fs.length + i) undef))
  | [], fs, _, h => ⟨[], rfl, by simpa [quietsV] using h, fun i o hi => by simp at hi⟩
  | o :: r, fs, hat, h => by
    obtain ⟨f, h1, h2⟩ := h
    have hsub : ∀ (gs : List Value) (k : Nat), k ≤ fs.length → envR ops (valsOf (fs ++ gs)) (fun _ => undef) (List.range k) env0 = envR ops (valsOf fs) (fun _ => undef) (List.range k) env0 := by
      intro gs k hk
      have : valsOf (fs ++ gs) = valsOf fs ++ valsOf gs := by simp [valsOf]
      rw [this]
      exact envR_left _ _ _ _ (fun j hj => by have := List.mem_range.1 hj; simp [valsOf]; omega)
    have hstep : ext o.dst f (envR ops (valsOf fs) (fun _ => undef) (List.range fs.length) env0) = envR ops (valsOf (fs ++ [f])) (fun _ => undef) (List.range (fs ++ [f]).length) env0 := by
      have hap : ∀ (l m : List Nat) (e : Env), envR ops (valsOf (fs ++ [f])) (fun _ => undef) (l ++ m) e = envR ops (valsOf (fs ++ [f])) (fun _ => undef) m (envR ops (valsOf (fs ++ [f])) (fun _ => undef) l e) := by
        intro l
        induction l with
        | nil => intro m e; rfl
        | cons j l ih => intro m e; exact ih m _
      rw [show (fs ++ [f]).length = fs.length + 1 by simp, List.range_succ, hap, hsub [f] fs.length (Nat.le_refl _)]
      show _ = ext ((ops[fs.length]?).bind (·.dst)) (((spAt (valsOf (fs ++ [f])) fs.length).at fun _ => undef).cur undef) _
      have h0 := hat 0 o rfl
      rw [Nat.add_zero] at h0
      rw [h0, spAt_vals]
      simp [Sp.cur, SpX.at]
    rw [hstep] at h2
    obtain ⟨gs, hg1, hg2, hg3⟩ := quietsV_spec r (fs ++ [f]) (fun i o' hi => by
      have := hat (i + 1) o' (by simpa using hi)
      rwa [show (fs ++ [f]).length + i = fs.length + (i + 1) by simp; omega]) h2
    refine ⟨f :: gs, by simp [hg1], by simpa using hg2, ?_⟩
    intro i o' hi
    cases i with
    | zero =>
      simp only [List.getElem?_cons_zero, Option.some.injEq] at hi
      subst hi
      rw [Nat.add_zero, hsub (f :: gs) fs.length (Nat.le_refl _)]
      simpa using h1
    | succ i =>
      have := hg3 i o' (by simpa using hi)
      simp only [List.append_assoc, List.singleton_append] at this
      rwa [show (fs ++ [f]).length + i = fs.length + (i + 1) by simp; omega] at this
theorem quiets_of {ops : Array Oper} {sp : List SpX} : ∀ (l : List Oper) (k : Nat) (Ws Cs : List (List Nat)), l.length ≤ Ws.length → l.length ≤ Cs.length →
    (∀ (i : Nat) (o : Oper) (W C : List Nat), l[i]? = some o → Ws[i]? = some W → Cs[i]? = some C → ∀ xs : Nat → Value, (∀ j ∈ C, ((spAt sp j).at xs).fact (xs j)) → QG P n S w0 ops o (envR ops sp xs W env) (resR xs (fun j => C.contains j) 0 sp ++ L) ((spAt sp (k + i)).at xs)) → quiets P n S w0 ops sp env L k l Ws Cs
  | [], k, Ws, Cs, _, _, _ => by unfold quiets; trivial
  | o :: l, k, [], Cs, h, _, _ => by simp at h
  | o :: l, k, W :: Ws, [], _, h, _ => by simp at h
  | o :: l, k, W :: Ws, C :: Cs, h1, h2, h => ⟨fun xs hx => by simpa using h 0 o W C rfl rfl rfl xs hx, quiets_of l (k + 1) Ws Cs (by simpa using h1) (by simpa using h2) (fun i o' W' C' a b c xs hx => by
      have := h (i + 1) o' W' C' (by simpa using a) (by simpa using b) (by simpa using c) xs hx
      rwa [show k + (i + 1) = k + 1 + i by omega] at this)⟩
theorem resR_vals (xs : Nat → Value) (D : Nat → Bool) : ∀ (fs : List Value) (k : Nat), resR xs D k (valsOf fs) = []
  | [], k => rfl
  | f :: fs, k => by
    show (match D k with | true => [] ++ resR xs D (k + 1) (valsOf fs) | false => resR xs D (k + 1) (valsOf fs)) = []
    rw [resR_vals xs D fs (k + 1)]
    cases D k <;> rfl
/-- the rule: each quiet one is looked at as if all ahead of it had come to their values -/
theorem VC_drawG {id : Nat} {l : List Oper} (m : Nat) (sp : List SpX) (Ws Cs : List (List Nat)) (hmix : P.follows .mixedOrders = true)
    (hok : (orderly l.toArray n && tablesOk l.toArray m Ws Cs && (sp.length == m) && Nat.ble m l.length) = true)
    (hqs : ∀ (i : Nat) (o : Oper) (C : List Nat), (l.take m)[i]? = some o → Cs[i]? = some C → ∀ xs : Nat → Value, (∀ j ∈ C, ((spAt sp j).at xs).fact (xs j)) → QG P n S w0 l.toArray o (envR l.toArray sp xs (List.range i) env) (resR xs (fun j => C.contains j) 0 sp ++ L) ((spAt sp i).at xs))
    (hcl : ∀ (i : Nat) (C : List Nat), Cs[i]? = some C → ∀ j ∈ (spAt sp i).cl, j ∈ C)
    (hfin : ∀ xs : Nat → Value, (∀ j, j < m → ((spAt sp j).at xs).fact (xs j)) → VL P n S w0 l.toArray (QN Q) (l.drop m) (envR l.toArray sp xs (List.range m) env) (resR xs (fun _ => true) 0 sp ++ L)) :
    VC P n S w0 (.region id l.toArray true) Q env L := by
  have hok' := hok
  simp only [Bool.and_eq_true, beq_iff_eq] at hok'
  obtain ⟨⟨⟨ho, ht⟩, hsl⟩, hml⟩ := hok'
  have hml' := Nat.le_of_ble_eq_true hml
  have hsz : Ws.length = l.length ∧ Cs.length = l.length := by
    have ht' := ht
    simp only [tablesOk, Bool.and_eq_true, beq_iff_eq] at ht'
    exact ⟨by simpa using ht'.1.1, by simpa using ht'.1.2⟩
  refine VC_draw m sp Ws Cs hmix hok hcl ?_ hfin
  · refine quiets_of (l.take m) 0 Ws Cs (by rw [List.length_take]; omega) (by rw [List.length_take]; omega) ?_
    intro i o W C hi hW hC xs hx
    have him : i < m := by
      have := (List.getElem?_eq_some_iff.1 hi).1
      rw [List.length_take] at this
      omega
    have hio : l.toArray[i]? = some o := by
      rw [List.getElem?_take, if_pos him] at hi
      simpa using hi
    have hq := hqs i o C hi hC xs hx
    rw [Nat.zero_add]
    -- the tables
    have hWo : waits o = W := by
      have ht' := ht
      simp only [tablesOk, Bool.and_eq_true, List.all_eq_true, List.mem_range] at ht'
      have hh := ht'.2 i (Array.getElem?_eq_some_iff.1 hio).1
      rw [hio, hW, hC] at hh
      simp only [Bool.and_eq_true, beq_iff_eq] at hh
      exact hh.1.1.1.2
    obtain ⟨hw1, hw2, hw3⟩ := orderly_spec ho hio
    have hWi : ∀ j ∈ W, j < i := fun j hj => hw1 j (hWo ▸ hj)
    have hdst : ∀ (j : Nat) (o : Oper), l.toArray[j]? = some o → dstOk n o.dst = true := by
      intro j o hj
      cases hd : o.dst with
      | none => rfl
      | some d => exact Nat.ble_eq_true_of_le (((orderly_spec ho hj).2.1 d hd).1)
    let vs : Nat → Value := fun j => ((spAt sp j).at xs).cur (xs j)
    have key : ∀ a, Models n (envR l.toArray sp xs W env) a → Models n (envR l.toArray sp xs (List.range i) env) (frameOf l.toArray vs (List.range i) a) ∧
        (∀ t ∈ o.looksAt l.toArray, (frameOf l.toArray vs (List.range i) a).tmps[t]? = a.tmps[t]?) := by
      intro a hm
      constructor
      · refine ⟨by rw [frameOf_size]; exact hm.size, by rw [frameOf_defers]; exact hm.defers, ?_⟩
        intro t v htv
        by_cases hex : ∃ j, j < i ∧ (l.toArray[j]?).bind (·.dst) = some t
        · obtain ⟨j, hji, hd⟩ := hex
          obtain ⟨oj, hj1, hj2⟩ := Option.bind_eq_some_iff.1 hd
          have hu : ∀ k, (l.toArray[k]?).bind (·.dst) = some t → k = j := by
            intro k hk
            obtain ⟨ok, hk1, hk2⟩ := Option.bind_eq_some_iff.1 hk
            exact ((orderly_spec ho hj1).2.1 t hj2).2 k ok hk1 hk2
          rw [look_at hd hu _ _ (.inl (List.mem_range.2 hji))] at htv
          rw [frameOf_at vs t j hd hu _ a (by rw [hm.size]; exact ((orderly_spec ho hj1).2.1 t hj2).1) (.inr (List.mem_range.2 hji)), ← htv]
        · have hno : ∀ j ∈ List.range i, (l.toArray[j]?).bind (·.dst) ≠ some t := fun j hj hd => hex ⟨j, List.mem_range.1 hj, hd⟩
          rw [look_other _ _ hno] at htv
          rw [frameOf_other vs t _ a hno]
          exact hm.get t v (by rw [look_other _ _ (fun j hj => hno j (List.mem_range.2 (hWi j hj)))]; exact htv)
      · intro t htl
        by_cases hex : ∃ j, j < i ∧ (l.toArray[j]?).bind (·.dst) = some t
        · obtain ⟨j, hji, hd⟩ := hex
          obtain ⟨oj, hj1, hj2⟩ := Option.bind_eq_some_iff.1 hd
          have hu : ∀ k, (l.toArray[k]?).bind (·.dst) = some t → k = j := by
            intro k hk
            obtain ⟨ok, hk1, hk2⟩ := Option.bind_eq_some_iff.1 hk
            exact ((orderly_spec ho hj1).2.1 t hj2).2 k ok hk1 hk2
          have hjW : j ∈ W := by
            rcases hw3 j oj t hj1 hj2 htl with h | h | h
            · exact hWo ▸ h
            · omega
            · have := (orderly_spec ho hj1).1 i h; omega
          rw [frameOf_at vs t j hd hu _ a (by rw [hm.size]; exact ((orderly_spec ho hj1).2.1 t hj2).1) (.inr (List.mem_range.2 hji))]
          have := hm.get t _ (look_at hd hu W env (.inl hjW))
          rw [this]
        · have hno : ∀ j ∈ List.range i, (l.toArray[j]?).bind (·.dst) ≠ some t := fun j hj hd => hex ⟨j, List.mem_range.1 hj, hd⟩
          rw [frameOf_other vs t _ a hno]
    have hgv : ∀ (j : Nat) (b : Bool), o.guard = some (j, b) → gval l.toArray (envR l.toArray sp xs (List.range i) env) j = gval l.toArray (envR l.toArray sp xs W env) j ∧ gunm l.toArray (envR l.toArray sp xs (List.range i) env) j b = gunm l.toArray (envR l.toArray sp xs W env) j b := by
      intro j b hg
      unfold gval gunm
      cases hd : (l.toArray[j]?).bind (·.dst) with
      | none => exact ⟨rfl, rfl⟩
      | some t =>
        have htl : t ∈ o.looksAt l.toArray := by unfold Oper.looksAt; rw [hg]; simp only [hd]; exact List.mem_append.2 (.inr (by simp))
        simp only [Option.bind_some]
        have : look t (envR l.toArray sp xs (List.range i) env) = look t (envR l.toArray sp xs W env) := by
          by_cases hex : ∃ j, j < i ∧ (l.toArray[j]?).bind (·.dst) = some t
          · obtain ⟨j', hji, hd'⟩ := hex
            obtain ⟨oj, hj1, hj2⟩ := Option.bind_eq_some_iff.1 hd'
            have hu : ∀ k, (l.toArray[k]?).bind (·.dst) = some t → k = j' := by
              intro k hk
              obtain ⟨ok, hk1, hk2⟩ := Option.bind_eq_some_iff.1 hk
              exact ((orderly_spec ho hj1).2.1 t hj2).2 k ok hk1 hk2
            have hjW : j' ∈ W := by
              rcases hw3 j' oj t hj1 hj2 htl with h | h | h
              · exact hWo ▸ h
              · omega
              · have := (orderly_spec ho hj1).1 i h; omega
            rw [look_at hd' hu _ _ (.inl (List.mem_range.2 hji)), look_at hd' hu _ _ (.inl hjW)]
          · have hno : ∀ j ∈ List.range i, (l.toArray[j]?).bind (·.dst) ≠ some t := fun j hj hd => hex ⟨j, List.mem_range.1 hj, hd⟩
            rw [look_other _ _ hno, look_other _ _ (fun j hj => hno j (List.mem_range.2 (hWi j hj)))]
        rw [this]
        exact ⟨rfl, rfl⟩
    rcases hq with ⟨hmet, hqt⟩ | ⟨hun, hsp⟩
    · refine .inl ⟨?_, ⟨fun a w hm H => ?_⟩⟩
      · cases hg : o.guard with
        | none => trivial
        | some p =>
          obtain ⟨j, b⟩ := p
          rw [hg] at hmet
          show gval _ _ j = some b
          rw [← (hgv j b hg).1]
          exact hmet
      · obtain ⟨hm', hsame⟩ := key a hm
        have hwp := hqt.run _ w hm' H
        have hsel : ∀ cs b, o.op ≠ .select cs b := by
          intro cs b
          have ho' := ho
          simp only [orderly, Bool.and_eq_true] at ho'
          exact Region.noSelect_spec ho'.1 i o cs b hio
        have hex : execOp (frameOf l.toArray vs (List.range i) a).eval o = execOp a.eval o := by
          refine execOp_congr o hsel (fun x hx => ?_)
          cases x with
          | tmp t =>
            have := hsame t (by unfold Oper.looksAt; exact List.mem_append.2 (.inl (List.mem_filterMap.2 ⟨_, Array.mem_toList_iff.2 hx, rfl⟩)))
            simp only [Act.eval, Array.getD_eq_getD_getElem?, this]
          | const v => rfl
          | global g => rfl
          | func f => rfl
        unfold Oper.wp at hwp ⊢
        rw [hex] at hwp
        refine upon_imp hwp ?_ ?_
        · rintro v w' ⟨u, h1, h2, h3, h4⟩
          have hu := put_value (o := o) (n := n) (fun d hd => ((orderly_spec ho hio).2.1 d hd).1) (by rw [frameOf_size]; exact hm.size) h1 h2
          refine ⟨u, ?_, h2, h3, h4⟩
          cases hd : o.dst with
          | none => rfl
          | some d =>
            rw [hd] at h1
            have h5 := congrArg (fun x : Act => x.tmps[d]?) h1
            have hdn : d < (frameOf l.toArray vs (List.range i) a).tmps.size := by rw [frameOf_size, hm.size]; exact ((orderly_spec ho hio).2.1 d hd).1
            simp only [put_getElem_same hdn, Option.some.injEq] at h5
            rw [h5]
        · rintro d w' ⟨u, h1, _⟩
          have h5 := congrArg Act.defers h1
          rw [put_defs, put_defs] at h5
          have h6 := congrArg List.length h5
          simp at h6
    · refine .inr ⟨?_, hsp⟩
      cases hg : o.guard with
      | none => rw [hg] at hun; exact hun.elim
      | some p =>
        obtain ⟨j, b⟩ := p
        rw [hg] at hun
        show gunm _ _ j b = true
        rw [← (hgv j b hg).2]
        exact hun

/-- the rule, where all come to values -/
theorem VC_drawV {id : Nat} {l : List Oper} (m : Nat) (Ws Cs : List (List Nat)) (hmix : P.follows .mixedOrders = true)
    (hok : (orderly l.toArray n && tablesOk l.toArray m Ws Cs && Nat.ble m l.length) = true)
    (hq : quietsV P n S w0 l.toArray L (fun env => VL P n S w0 l.toArray (QN Q) (l.drop m) env L) (l.take m) env) :
    VC P n S w0 (.region id l.toArray true) Q env L := by
  simp only [Bool.and_eq_true] at hok
  obtain ⟨⟨ho, ht⟩, hml⟩ := hok
  have hml' := Nat.le_of_ble_eq_true hml
  obtain ⟨fs, hfl, hF, hqs⟩ := quietsV_spec (env0 := env) (l.take m) [] (fun i o hi => by
    rw [List.getElem?_take] at hi
    split at hi
    · simpa using hi
    · cases hi) hq
  have hfm : fs.length = m := by rw [hfl, List.length_take]; omega
  simp only [List.nil_append, List.length_nil, Nat.zero_add] at hF hqs
  have hcur : ∀ (xs : Nat → Value) (j : Nat), ((spAt (valsOf fs) j).at xs).cur (xs j) = fs.getD j undef := fun xs j => by rw [spAt_vals]; rfl
  have henv : ∀ (xs : Nat → Value) (W : List Nat) (e : Env), envR l.toArray (valsOf fs) xs W e = envR l.toArray (valsOf fs) (fun _ => undef) W e := by
    intro xs W
    induction W with
    | nil => intro e; rfl
    | cons j W ih =>
      intro e
      unfold envR
      rw [hcur xs j, show (((spAt (valsOf fs) j).at fun _ => undef).cur undef) = fs.getD j undef from hcur (fun _ => undef) j]
      exact ih _
  refine VC_drawG m (valsOf fs) Ws Cs hmix (by simp only [Bool.and_eq_true, beq_iff_eq]; exact ⟨⟨⟨ho, ht⟩, by simp [valsOf, hfm]⟩, hml⟩) ?_ (fun i C _ j hj => by rw [spAt_vals] at hj; cases hj) ?_
  · intro i o C hi hC xs hx
    rw [spAt_vals, henv, resR_vals, List.nil_append]
    exact hqs i o hi
  · intro xs _
    rw [henv, resR_vals, List.nil_append]
    rw [hfm] at hF
    exact hF

/-! ### some come to new memory -/
abbrev Ak := List (Nat × List Nat × ((Nat → Value) → Value → Prop) × ((Nat → Value) → Value → List Res))
def factsA (C : List Nat) (xs : Nat → Value) : Ak → Prop
  | [] => True
  | (j, Cj, F, _) :: r => (C.contains j = true → F (mask Cj xs) (xs j)) ∧ factsA C xs r
def resA (C : List Nat) (xs : Nat → Value) : Ak → List Res
  | [] => []
  | (j, Cj, _, N) :: r => match C.contains j with
    | true => N (mask Cj xs) (xs j) ++ resA C xs r
    | false => resA C xs r
def factsT (xs : Nat → Value) : Ak → Prop
  | [] => True
  | (j, Cj, F, _) :: r => F (mask Cj xs) (xs j) ∧ factsT xs r
def resT (xs : Nat → Value) : Ak → List Res
  | [] => []
  | (j, Cj, _, N) :: r => N (mask Cj xs) (xs j) ++ resT xs r
def SpX.ak (k : Nat) : SpX → Ak
  | .val _ _ => []
  | .any C F N => [(k, C, F, N)]
def akOf : Nat → List SpX → Ak
  | _, [] => []
  | k, s :: r => s.ak k ++ akOf (k + 1) r
def quietsM (P : Program) (n : Nat) (S : List Nat) (w0 : World) (ops : Array Oper) (L : List Res) (F : ((Nat → Value) → Env) → Ak → Prop) : Nat → List Oper → List (List Nat) → ((Nat → Value) → Env) → Ak → Prop
  | k, o :: r, C :: Cs, E, A => ∃ s : SpX, (s.cl.all fun j => C.contains j) = true ∧ (∀ xs : Nat → Value, factsA C xs A → QG P n S w0 ops o (E xs) (resA C xs A ++ L) (s.at xs)) ∧ quietsM P n S w0 ops L F (k + 1) r Cs (fun xs => ext o.dst ((s.at xs).cur (xs k)) (E xs)) (A ++ s.ak k)
  | _, [], _, E, A => F E A
  | _, _, _, _, _ => False
theorem akOf_append : ∀ (a b : List SpX) (k : Nat), akOf k (a ++ b) = akOf k a ++ akOf (k + a.length) b
  | [], b, k => by simp [akOf]
  | s :: a, b, k => by
    show s.ak k ++ akOf (k + 1) (a ++ b) = s.ak k ++ akOf (k + 1) a ++ akOf _ b
    rw [akOf_append a b (k + 1), List.append_assoc, show k + 1 + a.length = k + (s :: a).length by simp; omega]
theorem factsA_of {C : List Nat} {xs : Nat → Value} : ∀ (sp : List SpX) (k : Nat), (∀ j, k ≤ j → j < k + sp.length → C.contains j = true → ((spAt sp (j - k)).at xs).fact (xs j)) → factsA C xs (akOf k sp)
  | [], k, _ => trivial
  | s :: r, k, h => by
    have ih := factsA_of (xs := xs) (C := C) r (k + 1) (fun j h1 h2 hc => by
      have := h j (by omega) (by simp; omega) hc
      rw [show j - k = (j - (k + 1)) + 1 by omega] at this
      exact this)
    cases s with
    | val Cf f => exact ih
    | any Cf F N => exact ⟨fun hc => by have := h k (Nat.le_refl _) (by simp) hc; rw [Nat.sub_self] at this; exact this, ih⟩
theorem factsT_of {xs : Nat → Value} : ∀ (sp : List SpX) (k : Nat), (∀ j, k ≤ j → j < k + sp.length → ((spAt sp (j - k)).at xs).fact (xs j)) → factsT xs (akOf k sp)
  | [], k, _ => trivial
  | s :: r, k, h => by
    have ih := factsT_of (xs := xs) r (k + 1) (fun j h1 h2 => by
      have := h j (by omega) (by simp; omega)
      rw [show j - k = (j - (k + 1)) + 1 by omega] at this
      exact this)
    cases s with
    | val Cf f => exact ih
    | any Cf F N => exact ⟨by have := h k (Nat.le_refl _) (by simp); rw [Nat.sub_self] at this; exact this, ih⟩
theorem resA_of (C : List Nat) (xs : Nat → Value) : ∀ (sp : List SpX) (k : Nat), resR xs (fun j => C.contains j) k sp = resA C xs (akOf k sp)
  | [], k => rfl
  | s :: r, k => by
    have ih := resA_of C xs r (k + 1)
    unfold resR
    cases s with
    | val Cf f =>
      show (match C.contains k with | true => [] ++ resR xs (fun j => C.contains j) (k + 1) r | false => resR xs (fun j => C.contains j) (k + 1) r) = resA C xs (akOf (k + 1) r)
      rw [ih]
      cases C.contains k <;> rfl
    | any Cf F N =>
      show (match C.contains k with | true => N (mask Cf xs) (xs k) ++ resR xs (fun j => C.contains j) (k + 1) r | false => resR xs (fun j => C.contains j) (k + 1) r) = (match C.contains k with | true => N (mask Cf xs) (xs k) ++ resA C xs (akOf (k + 1) r) | false => resA C xs (akOf (k + 1) r))
      rw [ih]
theorem resT_of (xs : Nat → Value) : ∀ (sp : List SpX) (k : Nat), resR xs (fun _ => true) k sp = resT xs (akOf k sp)
  | [], k => rfl
  | s :: r, k => by
    have ih := resT_of xs r (k + 1)
    unfold resR
    cases s with
    | val Cf f => exact ih
    | any Cf F N =>
      show N (mask Cf xs) (xs k) ++ resR xs (fun _ => true) (k + 1) r = N (mask Cf xs) (xs k) ++ resT xs (akOf (k + 1) r)
      rw [ih]
theorem quietsM_spec {ops : Array Oper} {F : ((Nat → Value) → Env) → Ak → Prop} {env0 : Env} : ∀ (r : List Oper) (Cs : List (List Nat)) (acc : List SpX), (∀ i o, r[i]? = some o → ops[acc.length + i]? = some o) → (∀ (i : Nat) (C : List Nat), Cs[i]? = some C → ∀ j ∈ C, j < acc.length + i) → Cs.length ≤ r.length →
    quietsM P n S w0 ops L F acc.length r Cs (fun xs => envR ops acc xs (List.range acc.length) env0) (akOf 0 acc) →
    ∃ t : List SpX, t.length = r.length ∧ F (fun xs => envR ops (acc ++ t) xs (List.range (acc ++ t).length) env0) (akOf 0 (acc ++ t)) ∧ (∀ (i : Nat) (C : List Nat), Cs[i]? = some C → ∀ j ∈ (spAt (acc ++ t) (acc.length + i)).cl, j ∈ C) ∧
      ∀ i o C, r[i]? = some o → Cs[i]? = some C → ∀ xs : Nat → Value, (∀ j ∈ C, ((spAt (acc ++ t) j).at xs).fact (xs j)) → QG P n S w0 ops o (envR ops (acc ++ t) xs (List.range (acc.length + i)) env0) (resR xs (fun j => C.contains j) 0 (acc ++ t) ++ L) ((spAt (acc ++ t) (acc.length + i)).at xs)
  | [], Cs, acc, _, _, hlen, h => by
    refine ⟨[], rfl, by unfold quietsM at h; simpa using h, ?_, ?_⟩
    · intro i C hC
      have : Cs = [] := List.eq_nil_of_length_eq_zero (by simpa using hlen)
      subst this
      simp at hC
    · intro i o C hi
      simp at hi
  | o :: r, [], acc, hat, hcs, _, h => by unfold quietsM at h; exact h.elim
  | o :: r, C :: Cs, acc, hat, hcs, hlen, h => by
    obtain ⟨s, h0, h1, h2⟩ := h
    have hap : ∀ (sp : List SpX) (xs : Nat → Value) (l m : List Nat) (e : Env), envR ops sp xs (l ++ m) e = envR ops sp xs m (envR ops sp xs l e) := by
      intro sp xs l
      induction l with
      | nil => intro m e; rfl
      | cons j l ih => intro m e; exact ih m _
    have hE : (fun xs => ext o.dst ((s.at xs).cur (xs acc.length)) (envR ops acc xs (List.range acc.length) env0)) = fun xs => envR ops (acc ++ [s]) xs (List.range (acc ++ [s]).length) env0 := by
      funext xs
      rw [show (acc ++ [s]).length = acc.length + 1 by simp, List.range_succ, hap, envR_left acc [s] (List.range acc.length) env0 (fun j hj => List.mem_range.1 hj)]
      show _ = ext ((ops[acc.length]?).bind (·.dst)) (((spAt (acc ++ [s]) acc.length).at xs).cur (xs acc.length)) _
      have h0 := hat 0 o rfl
      rw [Nat.add_zero] at h0
      rw [h0, spAt_last]
      rfl
    have hA : akOf 0 acc ++ s.ak acc.length = akOf 0 (acc ++ [s]) := by
      rw [akOf_append, Nat.zero_add]
      simp [akOf]
    rw [hE, hA, show acc.length + 1 = (acc ++ [s]).length by simp] at h2
    obtain ⟨t, ht1, ht2, ht4, ht3⟩ := quietsM_spec r Cs (acc ++ [s]) (fun i o' hi => by
      have := hat (i + 1) o' (by simpa using hi)
      rwa [show (acc ++ [s]).length + i = acc.length + (i + 1) by simp; omega]) (fun i C' hC' j hj => by have := hcs (i + 1) C' (by simpa using hC') j hj; simp; omega) (by simpa using hlen) h2
    have e : acc ++ [s] ++ t = acc ++ s :: t := by simp
    rw [e] at ht2 ht3 ht4
    refine ⟨s :: t, by simp [ht1], ht2, ?_, ?_⟩
    · intro i C' hC' j hj
      cases i with
      | zero =>
        simp only [List.getElem?_cons_zero, Option.some.injEq] at hC'
        subst hC'
        rw [Nat.add_zero, spAt_last] at hj
        simpa using List.all_eq_true.1 h0 j hj
      | succ i => exact ht4 i C' (by simpa using hC') j (by rwa [show (acc ++ [s]).length + i = acc.length + (i + 1) by simp; omega])
    intro i o' C' hi hC' xs hx
    cases i with
    | zero =>
      simp only [List.getElem?_cons_zero, Option.some.injEq] at hi hC'
      subst hi
      subst hC'
      have hC0 : ∀ j ∈ C, j < acc.length := fun j hj => by simpa using hcs 0 C rfl j hj
      rw [Nat.add_zero, spAt_last, envR_left acc (s :: t) _ env0 (fun j hj => List.mem_range.1 hj), resR_left acc (s :: t) 0 (fun j hj => by
        cases hb : C.contains j with
        | false => rfl
        | true => have := hC0 j (by simpa using hb); omega), resA_of]
      refine h1 xs (factsA_of acc 0 (fun j _ hj hc => ?_))
      have := hx j (by simpa using hc)
      rw [spAt_left acc (s :: t) j (by omega)] at this
      simpa using this
    | succ i =>
      have := ht3 i o' C' (by simpa using hi) (by simpa using hC') xs hx
      rwa [show (acc ++ [s]).length + i = acc.length + (i + 1) by simp; omega] at this
theorem VC_drawM {id : Nat} {l : List Oper} (m : Nat) (Ws Cs : List (List Nat)) (hmix : P.follows .mixedOrders = true)
    (hok : (orderly l.toArray n && tablesOk l.toArray m Ws Cs && Nat.ble m l.length) = true)
    (hq : quietsM P n S w0 l.toArray L (fun E A => ∀ xs : Nat → Value, factsT xs A → VL P n S w0 l.toArray (QN Q) (l.drop m) (E xs) (resT xs A ++ L)) 0 (l.take m) (Cs.take m) (fun _ => env) []) :
    VC P n S w0 (.region id l.toArray true) Q env L := by
  simp only [Bool.and_eq_true] at hok
  obtain ⟨⟨ho, ht⟩, hml⟩ := hok
  have hml' := Nat.le_of_ble_eq_true hml
  have hsz : Ws.length = l.length ∧ Cs.length = l.length := by
    have ht' := ht
    simp only [tablesOk, Bool.and_eq_true, beq_iff_eq] at ht'
    exact ⟨by simpa using ht'.1.1, by simpa using ht'.1.2⟩
  have hC : ∀ (i : Nat) (C : List Nat), Cs[i]? = some C → ∀ j ∈ C, j < i := by
    intro i C hC j hj
    have hil : i < l.length := by have := (List.getElem?_eq_some_iff.1 hC).1; omega
    have ht' := ht
    simp only [tablesOk, Bool.and_eq_true, List.all_eq_true, List.mem_range] at ht'
    have hh := ht'.2 i (by simpa using hil)
    have hio : l.toArray[i]? = some (l[i]'hil) := by simp [hil]
    have hWi : Ws[i]? = some (Ws[i]'(by omega)) := List.getElem?_eq_getElem (by omega)
    rw [hio, hWi, hC] at hh
    simp only [Bool.and_eq_true, List.all_eq_true] at hh
    exact Nat.le_of_ble_eq_true (hh.1.1.1.1 j hj)
  have htk : ∀ (i : Nat) (C : List Nat), (Cs.take m)[i]? = some C → i < m ∧ Cs[i]? = some C := by
    intro i C h
    rw [List.getElem?_take] at h
    split at h
    · rename_i h1; exact ⟨h1, h⟩
    · cases h
  obtain ⟨sp, h1, h2, h4, h3⟩ := quietsM_spec (env0 := env) (l.take m) (Cs.take m) [] (fun i o hi => by
    rw [List.getElem?_take] at hi
    split at hi
    · simpa using hi
    · cases hi) (fun i C h j hj => by simpa using hC i C (htk i C h).2 j hj) (by rw [List.length_take, List.length_take]; omega) hq
  simp only [List.nil_append, List.length_nil, Nat.zero_add] at h2 h3 h4
  have hl : sp.length = m := by rw [h1, List.length_take]; omega
  refine VC_drawG m sp Ws Cs hmix (by simp only [Bool.and_eq_true, beq_iff_eq]; exact ⟨⟨⟨ho, ht⟩, hl⟩, hml⟩) (fun i o C hi hC xs hx => h3 i o C hi (by
      have him : i < m := by
        have := (List.getElem?_eq_some_iff.1 hi).1
        rw [List.length_take] at this
        omega
      rw [List.getElem?_take, if_pos him]; exact hC) xs hx) (fun i C hC j hj => by
      by_cases him : i < m
      · exact h4 i C (by rw [List.getElem?_take, if_pos him]; exact hC) j hj
      · rw [spAt_of_le sp i (by omega)] at hj; cases hj) ?_
  intro xs hx
  have := h2 xs (factsT_of sp 0 (fun j _ hj => by simpa using hx j (by omega)))
  rw [hl] at this
  rw [resT_of]
  exact this
end
end Go.PBYtngdppffcdhhlaa
