/- A region that leaves its order open: if each of its operations, in whatever order, comes to a value of which its fact holds, then at its end all facts hold. No condition. -/
import Derived.Test.YtngdppffcdhhlaaPW
import Derived.Orders
namespace Go.PBYtngdppffcdhhlaa
open Go Go.RowKit
set_option linter.unusedSimpArgs false
set_option linter.unusedVariables false

/-- those that an operation waits for -/
def waits (o : Oper) : List Nat := ((o.after.toList.filter (Region.binds .any)).map (·.on)).eraseDups

/-- the frame in which operation o is looked at: what it waits for has its value -/
def frameOf (ops : Array Oper) (vs : Nat → Value) : List Nat → Act → Act
  | [], a => a
  | j :: r, a => frameOf ops vs r (a.put ((ops[j]?).bind (·.dst)) (vs j))

/-- what an operation's slot holds -/
def valOf (o : Oper) (a : Act) : Value := match o.dst with | some d => a.tmps.getD d undef | none => undef

/-- the slots that an operation looks at -/
def looks (ops : Array Oper) (o : Oper) : List Tmp := o.looksAt ops

/-- Each operation waits for such alone as stand ahead of it; no two write one slot; each slot is there; what it looks at is written by those that it waits for, or by nobody ahead of it. -/
def orderly (ops : Array Oper) (n : Nat) : Bool :=
  Region.noSelect ops &&
  (List.range ops.size).all fun i => match ops[i]? with
    | none => true
    | some o => (waits o).all (fun j => decide (j < i)) &&
      (match o.dst with
        | none => true
        | some d => decide (d < n) && (List.range ops.size).all fun j => j == i || (match ops[j]? with | some o' => o'.dst != some d | none => true)) &&
      (List.range ops.size).all fun j => match ops[j]? with
        | none => true
        | some o' => (match o'.dst with
          | none => true
          | some d => !(o.looksAt ops).contains d || (waits o).contains j || j == i || (waits o').contains i)

section
variable {P : Program} {ops : Array Oper} {C : (Nat → Bool) → (Nat → Value) → World → Prop} {F : Nat → Value → World → Prop} {a0 : Act}

def noQ : Exit → Act → World → Prop := fun _ _ _ => False

/-- i is done, too -/
def also (L : Nat → Bool) (i : Nat) : Nat → Bool := fun j => j == i || L j
/-- i has come to v -/
def came (vs : Nat → Value) (i : Nat) (v : Value) : Nat → Value := fun j => if j = i then v else vs j

/-- What is to be shown of operation i. -/
def stepOf (P : Program) (ops : Array Oper) (C : (Nat → Bool) → (Nat → Value) → World → Prop) (F : Nat → Value → World → Prop) (a0 : Act) (i : Nat) (o : Oper) : Prop :=
  ∀ (L : Nat → Bool) (vs : Nat → Value) (w : World), L i = false → (∀ j ∈ waits o, L j = true) → (∀ k ok, ops[k]? = some ok → L k = true → ∀ j ∈ waits ok, L j = true) → C L vs w → (∀ j ∈ waits o, F j (vs j) w) →
    if Region.wanted o (yielded ops (frameOf ops vs (waits o) a0).tmps) then
      o.wp P (frameOf ops vs (waits o) a0) w (fun a' w' => a'.defers = a0.defers ∧ C (also L i) (came vs i (valOf o a')) w' ∧ (∀ j v, F j v w → F j v w') ∧ F i (valOf o a') w') noQ
    else C (also L i) (came vs i undef) w ∧ F i undef w

theorem mem_waits {o : Oper} {e : Edge} (he : e ∈ o.after) (hb : Region.binds .any e = true) : e.on ∈ waits o := by
  unfold waits
  rw [List.mem_eraseDups]
  exact List.mem_map.2 ⟨e, List.mem_filter.2 ⟨Array.mem_toList_iff.2 he, hb⟩, rfl⟩
theorem of_mem_waits {o : Oper} {j : Nat} (h : j ∈ waits o) : ∃ e ∈ o.after, Region.binds .any e = true ∧ e.on = j := by
  unfold waits at h
  rw [List.mem_eraseDups] at h
  obtain ⟨e, he, rfl⟩ := List.mem_map.1 h
  obtain ⟨h1, h2⟩ := List.mem_filter.1 he
  exact ⟨e, Array.mem_toList_iff.1 h1, h2, rfl⟩

theorem put_getD_same {a : Act} {d : Nat} {v : Value} (hd : d < a.tmps.size) : (a.put (some d) v).tmps.getD d undef = v := by
  simp [Act.put, Array.getD_eq_getD_getElem?, hd]
theorem put_getD_ne {a : Act} {x : Option Tmp} {d : Nat} {v : Value} (h : x ≠ some d) : (a.put x v).tmps.getD d undef = a.tmps.getD d undef := by
  cases x with
  | none => rfl
  | some e =>
    have : e ≠ d := fun h' => h (by rw [h'])
    simp [Act.put, Array.getD_eq_getD_getElem?, Array.getElem?_setIfInBounds_ne this]
theorem put_size {a : Act} {x : Option Tmp} {v : Value} : (a.put x v).tmps.size = a.tmps.size := by cases x <;> simp [Act.put]
theorem put_getElem_ne {a : Act} {x : Option Tmp} {d : Nat} {v : Value} (h : x ≠ some d) : (a.put x v).tmps[d]? = a.tmps[d]? := by
  cases x with
  | none => rfl
  | some e =>
    have : e ≠ d := fun h' => h (by rw [h'])
    simp [Act.put, Array.getElem?_setIfInBounds_ne this]
theorem put_getElem_same {a : Act} {d : Nat} {v : Value} (hd : d < a.tmps.size) : (a.put (some d) v).tmps[d]? = some v := by
  simp [Act.put, hd]

theorem frameOf_size (vs : Nat → Value) : ∀ (l : List Nat) (a : Act), (frameOf ops vs l a).tmps.size = a.tmps.size
  | [], _ => rfl
  | j :: r, a => by rw [frameOf, frameOf_size vs r, put_size]
theorem frameOf_defers (vs : Nat → Value) : ∀ (l : List Nat) (a : Act), (frameOf ops vs l a).defers = a.defers
  | [], _ => rfl
  | j :: r, a => by rw [frameOf, frameOf_defers vs r]; cases (ops[j]?).bind (·.dst) <;> rfl
theorem frameOf_other (vs : Nat → Value) (d : Nat) : ∀ (l : List Nat) (a : Act), (∀ j ∈ l, (ops[j]?).bind (·.dst) ≠ some d) → (frameOf ops vs l a).tmps[d]? = a.tmps[d]?
  | [], _, _ => rfl
  | j :: r, a, h => by
    rw [frameOf, frameOf_other vs d r _ (fun k hk => h k (by simp [hk])), put_getElem_ne (h j (by simp))]
theorem frameOf_at (vs : Nat → Value) (d j : Nat) (hd : (ops[j]?).bind (·.dst) = some d) (hu : ∀ k, (ops[k]?).bind (·.dst) = some d → k = j) : ∀ (l : List Nat) (a : Act), d < a.tmps.size → (a.tmps[d]? = some (vs j) ∨ j ∈ l) → (frameOf ops vs l a).tmps[d]? = some (vs j)
  | [], a, hs, h => by simpa [frameOf] using h
  | k :: r, a, hs, h => by
    rw [frameOf]
    refine frameOf_at vs d j hd hu r _ (by rw [put_size]; exact hs) ?_
    by_cases e : (ops[k]?).bind (·.dst) = some d
    · have := hu k e
      subst this
      rw [hd]
      exact .inl (put_getElem_same hs)
    · rcases h with h | h
      · rw [put_getElem_ne e]; exact .inl h
      · rcases List.mem_cons.1 h with rfl | h
        · exact absurd hd e
        · exact .inr h

/-- what the slot of operation j holds -/
def valAt (ops : Array Oper) (a : Act) (j : Nat) : Value := match ops[j]? with | some oj => valOf oj a | none => undef

structure RInv (ops : Array Oper) (C : (Nat → Bool) → (Nat → Value) → World → Prop) (F : Nat → Value → World → Prop) (a0 : Act) (listed : Array Bool) (a : Act) (w : World) : Prop where
  c : C (fun j => listed.getD j false) (valAt ops a) w
  defers : a.defers = a0.defers
  size : a.tmps.size = a0.tmps.size
  lsize : listed.size = ops.size
  closed : ∀ i o, ops[i]? = some o → listed.getD i false = true → ∀ j ∈ waits o, listed.getD j false = true
  free : ∀ s, (∀ i o, ops[i]? = some o → o.dst = some s → listed.getD i false = false) → a.tmps[s]? = a0.tmps[s]?
  facts : ∀ i o, ops[i]? = some o → listed.getD i false = true → F i (valOf o a) w

theorem upon_imp {o : Oper} {a a' : Act} {r : Result Next} {K K' : Act → World → Prop} {Q' : Exit → Act → World → Prop} (h : o.upon P a K noQ r)
    (hk : ∀ v w, K (a.put o.dst v) w → K' (a'.put o.dst v) w) (hnod : ∀ d w, ¬ K ({ a with defers := d :: a.defers }.put o.dst undef) w) : o.upon P a' K' Q' r := by
  cases r with
  | ok n w =>
    cases n <;> simp only [Oper.upon, noQ] at h ⊢ <;> first | exact h.elim | skip
    case value v => exact hk _ _ h
    case skip => exact hk _ _ h
    case defer d => exact absurd h (hnod d w)
    case enter f args =>
      refine h.mono ?_
      intro e w' h'
      cases e with
      | returned v => exact hk _ _ h'
      | panicked c => exact h'.elim
      | outgrown => obtain ⟨_, _, h''⟩ := h'; exact h''.elim
    case row s args =>
      refine h.mono ?_
      intro v w' h'
      exact hk _ _ h'
  | halt x w => cases x <;> simp only [Oper.upon, noQ] at h

theorem orderly_spec {n : Nat} (h : orderly ops n = true) {i : Nat} {o : Oper} (hi : ops[i]? = some o) :
    (∀ j ∈ waits o, j < i) ∧ (∀ (d : Tmp), o.dst = some d → d < n ∧ ∀ (j : Nat) (o' : Oper), ops[j]? = some o' → o'.dst = some d → j = i) ∧
    (∀ (j : Nat) (o' : Oper) (d : Tmp), ops[j]? = some o' → o'.dst = some d → d ∈ o.looksAt ops → j ∈ waits o ∨ j = i ∨ i ∈ waits o') := by
  simp only [orderly, Bool.and_eq_true] at h
  have h1 := List.all_eq_true.1 h.2 i (List.mem_range.2 (Array.getElem?_eq_some_iff.1 hi).1)
  simp only [hi, Bool.and_eq_true] at h1
  obtain ⟨⟨h1, h2⟩, h3⟩ := h1
  refine ⟨fun j hj => by simpa using List.all_eq_true.1 h1 j hj, ?_, ?_⟩
  · intro d hd
    simp only [hd, Bool.and_eq_true, decide_eq_true_eq] at h2
    refine ⟨h2.1, fun j o' hj hd' => ?_⟩
    have := List.all_eq_true.1 h2.2 j (List.mem_range.2 (Array.getElem?_eq_some_iff.1 hj).1)
    simp only [hj, hd', Bool.or_eq_true, beq_iff_eq] at this
    simpa using this
  · intro j o' d hj hd hl
    have := List.all_eq_true.1 h3 j (List.mem_range.2 (Array.getElem?_eq_some_iff.1 hj).1)
    simp only [hj, hd, Bool.or_eq_true, beq_iff_eq, Bool.not_eq_true'] at this
    rcases this with ((h | h) | h) | h
    · rw [List.contains_iff_mem.2 hl] at h; simp at h
    · exact .inl (List.contains_iff_mem.1 h)
    · exact .inr (.inl h)
    · exact .inr (.inr (List.contains_iff_mem.1 h))

theorem rinv_step {n : Nat} (ho : orderly ops n = true) (hn : a0.tmps.size = n) (hstep : ∀ i o, ops[i]? = some o → stepOf P ops C F a0 i o) {listed : Array Bool} {a : Act} {w : World} (H : RInv ops C F a0 listed a w) {Q : Exit → Act → World → Prop}
    {i : Nat} (hi : i ∈ Region.ready .any ops listed) : wpOp P ops Q i (fun a' w' => RInv ops C F a0 (listed.setIfInBounds i true) a' w') a w := by
  obtain ⟨hl, o, hio, hpre⟩ := mem_ready.1 hi
  obtain ⟨hw1, hw2, hw3⟩ := orderly_spec ho hio
  have hil : i < listed.size := by rw [H.lsize]; exact (Array.getElem?_eq_some_iff.1 hio).1
  have hlf : listed.getD i false = false := by
    simp only [Array.getD_eq_getD_getElem?, Array.getElem?_eq_getElem hil, Option.getD_some] at hl ⊢
    exact hl
  have hwl : ∀ j ∈ waits o, listed.getD j false = true := by
    intro j hj
    obtain ⟨e, he, hb, rfl⟩ := of_mem_waits hj
    exact hpre e he hb
  let vs : Nat → Value := valAt ops a
  have hfacts : ∀ j ∈ waits o, F j (vs j) w := by
    intro j hj
    have hji := hw1 j hj
    have hjs : j < ops.size := by have := (Array.getElem?_eq_some_iff.1 hio).1; omega
    have hjo : ops[j]? = some ops[j] := Array.getElem?_eq_getElem hjs
    have := H.facts j _ hjo (hwl j hj)
    simp only [vs, valAt, hjo]
    exact this
  have hS := hstep i o hio (fun j => listed.getD j false) vs w hlf hwl (fun k ok hk hkl j hj => H.closed k ok hk hkl j hj) H.c hfacts
  -- the slots that are looked at
  have hsame : ∀ t ∈ o.looksAt ops, a.tmps[t]? = (frameOf ops vs (waits o) a0).tmps[t]? := by
    intro t ht
    by_cases hex : ∃ (j : Nat) (o' : Oper), ops[j]? = some o' ∧ o'.dst = some t
    · obtain ⟨j, o', hj, hd⟩ := hex
      have huniq : ∀ k, (ops[k]?).bind (·.dst) = some t → k = j := by
        intro k hk
        obtain ⟨ok, hk1, hk2⟩ := Option.bind_eq_some_iff.1 hk
        exact ((orderly_spec ho hj).2.1 t hd).2 k ok hk1 hk2
      have hnot : j ∉ waits o → (frameOf ops vs (waits o) a0).tmps[t]? = a0.tmps[t]? := by
        intro hjw
        refine frameOf_other vs t (waits o) a0 (fun k hk hkd => ?_)
        exact hjw (huniq k hkd ▸ hk)
      have hfree : listed.getD j false = false → a.tmps[t]? = a0.tmps[t]? := by
        intro hjl
        refine H.free t (fun k ok hk hkd => ?_)
        have : k = j := huniq k (by rw [hk]; exact hkd)
        rw [this]; exact hjl
      rcases hw3 j o' t hj hd ht with h | h | h
      · have htn := ((orderly_spec ho hj).2.1 t hd).1
        have hta : t < a.tmps.size := by rw [H.size, hn]; exact htn
        rw [frameOf_at vs t j (by rw [hj]; exact hd) huniq (waits o) a0 (by rw [hn]; exact htn) (.inr h)]
        simp only [vs, valAt, hj, valOf, hd]
        rw [Array.getElem?_eq_getElem hta, Array.getD_eq_getD_getElem?, Array.getElem?_eq_getElem hta]
        rfl
      · subst h
        have hnw : j ∉ waits o := fun h => by have := hw1 j h; omega
        rw [hnot hnw, hfree hlf]
      · have hnl : listed.getD j false = false := by
          cases hc : listed.getD j false with
          | false => rfl
          | true => have := H.closed j o' hj hc i h; rw [hlf] at this; cases this
        have hnw : j ∉ waits o := fun h' => by have h1 := hw1 j h'; have h2 := (orderly_spec ho hj).1 i h; omega
        rw [hnot hnw, hfree hnl]
    · have h1 : (frameOf ops vs (waits o) a0).tmps[t]? = a0.tmps[t]? := by
        refine frameOf_other vs t (waits o) a0 (fun k _ hkd => ?_)
        obtain ⟨ok, hk1, hk2⟩ := Option.bind_eq_some_iff.1 hkd
        exact hex ⟨k, ok, hk1, hk2⟩
      rw [h1]
      exact H.free t (fun k ok hk hkd => absurd ⟨k, ok, hk, hkd⟩ hex)
  have hsel : ∀ cs b, o.op ≠ .select cs b := by
    intro cs b
    simp only [orderly, Bool.and_eq_true] at ho
    exact Region.noSelect_spec ho.1 i o cs b hio
  have hexec : execOp a.eval o = execOp (frameOf ops vs (waits o) a0).eval o := by
    refine execOp_congr o hsel (fun x hx => ?_)
    cases x with
    | tmp t =>
      have := hsame t (by unfold Oper.looksAt; exact List.mem_append.2 (.inl (List.mem_filterMap.2 ⟨_, Array.mem_toList_iff.2 hx, rfl⟩)))
      simp only [Act.eval, Array.getD_eq_getD_getElem?, this]
    | const v => rfl
    | global g => rfl
    | func f => rfl
  have hwant : Region.wanted o (yielded ops a.tmps) = Region.wanted o (yielded ops (frameOf ops vs (waits o) a0).tmps) := by
    unfold Region.wanted
    cases hg : o.guard with
    | none => rfl
    | some p =>
      obtain ⟨j, b⟩ := p
      simp only
      congr 1
      unfold yielded
      cases hd : (ops[j]?).bind (·.dst) with
      | none => rfl
      | some d =>
        have := hsame d (by unfold Oper.looksAt; rw [hg]; simp only [hd]; exact List.mem_append.2 (.inr (by simp)))
        simp only [Option.bind_some, this]
  -- what the new state is
  have hnew : ∀ v w', C (also (fun j => listed.getD j false) i) (came vs i (match o.dst with | some _ => v | none => undef)) w' → (∀ j v, F j v w → F j v w') → F i (match o.dst with | some _ => v | none => undef) w' → RInv ops C F a0 (listed.setIfInBounds i true) (a.put o.dst v) w' := by
    intro v w' hC hR hF
    have hset : ∀ j, (listed.setIfInBounds i true).getD j false = true → j ≠ i → listed.getD j false = true := by
      intro j hj hne
      rwa [getD_set_ne false (Ne.symm hne)] at hj
    have hL : (fun j => (listed.setIfInBounds i true).getD j false) = also (fun j => listed.getD j false) i := by
      funext j
      unfold also
      by_cases hji : j = i
      · subst hji; simp [Array.getD_eq_getD_getElem?, hil]
      · rw [getD_set_ne false (Ne.symm hji)]; simp [hji]
    have hV : valAt ops (a.put o.dst v) = came vs i (match o.dst with | some _ => v | none => undef) := by
      funext j
      unfold came
      by_cases hji : j = i
      · subst hji
        simp only [valAt, hio, valOf, if_true]
        cases hd : o.dst with
        | none => rfl
        | some d => exact put_getD_same (by rw [H.size, hn]; exact (hw2 d hd).1)
      · simp only [hji, if_false, vs, valAt]
        cases hj : ops[j]? with
        | none => rfl
        | some oj =>
          simp only [valOf]
          cases hd : oj.dst with
          | none => rfl
          | some d => exact put_getD_ne (fun he => hji ((hw2 d he).2 j oj hj hd))
    refine ⟨by rw [hL, hV]; exact hC, ?_, by rw [put_size]; exact H.size, by simpa using H.lsize, ?_, ?_, ?_⟩
    · rw [← H.defers]; cases o.dst <;> rfl
    · intro j oj hj hjl k hk
      refine getD_set_true ?_
      by_cases hji : j = i
      · subst hji; rw [hio] at hj; cases hj; exact hwl k hk
      · exact H.closed j oj hj (hset j hjl hji) k hk
    · intro s hs
      have hne : o.dst ≠ some s := by
        intro he
        have := hs i o hio he
        simp [Array.getD_eq_getD_getElem?, hil] at this
      rw [put_getElem_ne hne]
      refine H.free s (fun k ok hk hkd => ?_)
      have h1 := hs k ok hk hkd
      by_cases hki : k = i
      · subst hki; exact hlf
      · rwa [getD_set_ne false (Ne.symm hki)] at h1
    · intro j oj hj hjl
      by_cases hji : j = i
      · subst hji
        rw [hio] at hj
        cases hj
        cases hd : o.dst with
        | none => simpa [valOf, hd] using hF
        | some d =>
          have hdn := (hw2 d hd).1
          simp only [hd] at hF
          simp only [valOf, hd]
          rw [put_getD_same (by rw [H.size, hn]; exact hdn)]
          exact hF
      · have h1 := H.facts j oj hj (hset j hjl hji)
        have h2 := hR j _ h1
        have e : valOf oj (a.put o.dst v) = valOf oj a := by
          unfold valOf
          cases hd : oj.dst with
          | none => rfl
          | some d =>
            simp only
            refine put_getD_ne (fun he => ?_)
            exact hji ((hw2 d he).2 j oj hj hd)
        rw [e]
        exact h2
  unfold wpOp
  simp only [hio]
  rw [hwant]
  by_cases hwt : Region.wanted o (yielded ops (frameOf ops vs (waits o) a0).tmps) = true
  · rw [if_pos hwt] at hS ⊢
    refine .inl ?_
    unfold Oper.wp at hS ⊢
    rw [hexec]
    refine upon_imp hS ?_ ?_
    · rintro v w' ⟨_, hC, hR, hF⟩
      have hval : valOf o ((frameOf ops vs (waits o) a0).put o.dst v) = (match o.dst with | some _ => v | none => undef) := by
        unfold valOf
        cases hd : o.dst with
        | none => rfl
        | some d => exact put_getD_same (by rw [frameOf_size, hn]; exact (hw2 d hd).1)
      rw [hval] at hC hF
      exact hnew v w' hC hR hF
    · rintro d w' ⟨hd, _⟩
      have hd' : d :: (frameOf ops vs (waits o) a0).defers = a0.defers := by
        cases hod : o.dst <;> simpa [Act.put, hod] using hd
      rw [frameOf_defers] at hd'
      have := congrArg List.length hd'
      simp at this
  · rw [if_neg hwt] at hS ⊢
    have hval : (match o.dst with | some _ => undef | none => undef) = undef := by cases o.dst <;> rfl
    refine hnew undef w ?_ (fun _ _ h => h) ?_
    · rw [hval]; exact hS.1
    · rw [hval]; exact hS.2


theorem rinv_any {n : Nat} (ho : orderly ops n = true) (hn : a0.tmps.size = n) (hstep : ∀ i o, ops[i]? = some o → stepOf P ops C F a0 i o) {Q : Exit → Act → World → Prop}
    (hfin : ∀ listed a w, RInv ops C F a0 listed a w → Region.ready .any ops listed = [] → Q .normal a w) : ∀ (fuel : Nat) (listed : Array Bool) (a : Act) (w : World),
    RInv ops C F a0 listed a w → (List.range ops.size).countP (fun j => !listed.getD j false) ≤ fuel → wpAny P .any ops Q fuel listed a w
  | 0, listed, a, w, H, hf => by
    have hr : Region.ready .any ops listed = [] := by
      rw [List.eq_nil_iff_forall_not_mem]
      intro i hi
      obtain ⟨hl, o, hio, _⟩ := mem_ready.1 hi
      have hil : i < ops.size := (Array.getElem?_eq_some_iff.1 hio).1
      have h0 := List.countP_eq_zero.1 (Nat.le_zero.1 hf) i (List.mem_range.2 hil)
      have hil' : i < listed.size := by rw [H.lsize]; exact hil
      simp only [Array.getD_eq_getD_getElem?, Array.getElem?_eq_getElem hil', Option.getD_some] at hl h0
      simp [hl] at h0
    exact ⟨hr, hfin _ _ _ H hr⟩
  | fuel + 1, listed, a, w, H, hf => by
    refine ⟨hfin _ _ _ H, fun i hi => ?_⟩
    refine wpOp_mono (fun a' w' H' => rinv_any ho hn hstep hfin fuel _ a' w' H' ?_) (rinv_step ho hn hstep H hi)
    obtain ⟨hl, o, hio, _⟩ := mem_ready.1 hi
    have hil : i < ops.size := (Array.getElem?_eq_some_iff.1 hio).1
    have hil' : i < listed.size := by rw [H.lsize]; exact hil
    have hlf : listed.getD i false = false := by
      simp only [Array.getD_eq_getD_getElem?, Array.getElem?_eq_getElem hil', Option.getD_some] at hl ⊢
      exact hl
    have key : ∀ (l : List Nat), l.Nodup → i ∈ l → l.countP (fun j => !(listed.setIfInBounds i true).getD j false) + 1 ≤ l.countP (fun j => !listed.getD j false) := by
      intro l
      induction l with
      | nil => intro _ h; cases h
      | cons x l ih =>
        intro hnd hm
        rw [List.countP_cons, List.countP_cons]
        have hle : ∀ (l : List Nat), l.countP (fun j => !(listed.setIfInBounds i true).getD j false) ≤ l.countP (fun j => !listed.getD j false) := by
          intro l
          refine List.countP_mono_left (fun j _ hj => ?_)
          cases hc : listed.getD j false with
          | false => rfl
          | true => rw [getD_set_true hc] at hj; cases hj
        by_cases hx : x = i
        · subst hx
          have h1 : (listed.setIfInBounds x true).getD x false = true := by simp [Array.getD_eq_getD_getElem?, hil']
          have := hle l
          rw [h1, hlf]
          simpa using this
        · have hm' : i ∈ l := by rcases List.mem_cons.1 hm with h | h; exact absurd h.symm hx; exact h
          have h1 := ih (List.nodup_cons.1 hnd).2 hm'
          rw [getD_set_ne false (fun h => hx h.symm)]
          omega
    have := key (List.range ops.size) List.nodup_range (List.mem_range.2 hil)
    omega

theorem wp_region_facts {id n : Nat} {Q : Exit → Act → World → Prop} {w : World} (hm : P.follows .mixedOrders = true) (ho : orderly ops n = true) (hn : a0.tmps.size = n) (hC : ∀ vs, C (fun _ => false) vs w.drew)
    (hstep : ∀ i o, ops[i]? = some o → stepOf P ops C F a0 i o)
    (hfin : ∀ (L : Nat → Bool) (vs : Nat → Value) (w' : World), (∀ i, i < ops.size → L i = true) → C L vs w' → (∀ i, i < ops.size → F i (vs i) w') → Q .normal (frameOf ops vs (List.range ops.size) a0) w') : (Code.region id ops true).wp P Q a0 w := by
  have hfalse : (fun j => (Array.replicate ops.size false).getD j false) = fun _ => false := by
    funext j
    simp only [Array.getD_eq_getD_getElem?, Array.getElem?_replicate]
    split <;> rfl
  refine wp_region_any hm (rinv_any (C := C) (F := F) ho hn hstep ?_ ops.size _ a0 _ ⟨by rw [hfalse]; exact hC _, rfl, rfl, by simp, ?_, fun _ _ => rfl, ?_⟩ ?_)
  · intro listed a w' H hr
    -- all are listed
    have hall : ∀ k, k ≤ ops.size → ∀ i, i < k → listed.getD i false = true := by
      intro k
      induction k with
      | zero => intro _ i hi; omega
      | succ k ih =>
        intro hk i hi
        by_cases hik : i = k
        · subst hik
          cases hc : listed.getD i false with
          | true => rfl
          | false =>
            exfalso
            have hio : ops[i]? = some ops[i] := Array.getElem?_eq_getElem (by omega)
            have hil : i < listed.size := by rw [H.lsize]; omega
            have : i ∈ Region.ready .any ops listed := by
              refine mem_ready.2 ⟨?_, _, hio, ?_⟩
              · simp only [Array.getD_eq_getD_getElem?, Array.getElem?_eq_getElem hil, Option.getD_some] at hc ⊢
                exact hc
              · intro e he hb
                have hlt := (orderly_spec ho hio).1 e.on (mem_waits he hb)
                exact ih (by omega) e.on hlt
            rw [hr] at this
            cases this
        · exact ih (by omega) i (by omega)
    let vs : Nat → Value := valAt ops a
    have hfr : a = frameOf ops vs (List.range ops.size) a0 := by
      obtain ⟨tm, df⟩ := a
      have hd : (frameOf ops vs (List.range ops.size) a0).defers = df := by rw [frameOf_defers]; exact H.defers.symm
      have ht : (frameOf ops vs (List.range ops.size) a0).tmps = tm := by
        apply Array.ext_getElem?
        intro s
        by_cases hex : ∃ (j : Nat) (o' : Oper), ops[j]? = some o' ∧ o'.dst = some s
        · obtain ⟨j, o', hj, hds⟩ := hex
          have huniq : ∀ k, (ops[k]?).bind (·.dst) = some s → k = j := by
            intro k hk
            obtain ⟨ok, hk1, hk2⟩ := Option.bind_eq_some_iff.1 hk
            exact ((orderly_spec ho hj).2.1 s hds).2 k ok hk1 hk2
          have hsn := ((orderly_spec ho hj).2.1 s hds).1
          have hsa : s < tm.size := by have h1 : tm.size = a0.tmps.size := H.size; rw [h1, hn]; exact hsn
          rw [frameOf_at vs s j (by rw [hj]; exact hds) huniq _ a0 (by rw [hn]; exact hsn) (.inr (List.mem_range.2 (Array.getElem?_eq_some_iff.1 hj).1))]
          simp only [vs, valAt, hj, valOf, hds]
          rw [Array.getElem?_eq_getElem hsa, Array.getD_eq_getD_getElem?, Array.getElem?_eq_getElem hsa]
          rfl
        · rw [frameOf_other vs s]
          · exact (H.free s (fun k ok hk hkd => absurd ⟨k, ok, hk, hkd⟩ hex)).symm
          · intro k _ hkd
            obtain ⟨ok, hk1, hk2⟩ := Option.bind_eq_some_iff.1 hkd
            exact hex ⟨k, ok, hk1, hk2⟩
      cases hfa : frameOf ops vs (List.range ops.size) a0 with
      | mk t d => rw [hfa] at hd ht; simp only at hd ht; rw [hd, ht]
    rw [hfr]
    refine hfin _ vs w' (fun i hi => hall ops.size (Nat.le_refl _) i hi) H.c (fun i hi => ?_)
    have hio : ops[i]? = some ops[i] := Array.getElem?_eq_getElem hi
    have := H.facts i _ hio (hall ops.size (Nat.le_refl _) i hi)
    simp only [vs, valAt, hio]
    exact this
  · intro i o hi hl
    have hlt := (Array.getElem?_eq_some_iff.1 hi).1
    simp [Array.getD_eq_getD_getElem?, hlt] at hl
  · intro i o hi hl
    have hlt := (Array.getElem?_eq_some_iff.1 hi).1
    simp [Array.getD_eq_getD_getElem?, hlt] at hl
  · exact Nat.le_trans List.countP_le_length (by simp)

/-- each operation's step, one by one -/
def stepsFrom (P : Program) (ops : Array Oper) (C : (Nat → Bool) → (Nat → Value) → World → Prop) (F : Nat → Value → World → Prop) (a0 : Act) : Nat → List Oper → Prop
  | _, [] => True
  | i, o :: r => stepOf P ops C F a0 i o ∧ stepsFrom P ops C F a0 (i + 1) r

theorem steps_spec : ∀ (l : List Oper) (k : Nat), stepsFrom P ops C F a0 k l → ∀ i o, l[i]? = some o → stepOf P ops C F a0 (k + i) o
  | [], _, _, i, o, h => by simp at h
  | x :: l, k, h, 0, o, hi => by simp at hi; subst hi; exact h.1
  | x :: l, k, h, i + 1, o, hi => by
    have := steps_spec l (k + 1) h.2 i o (by simpa using hi)
    rwa [show k + 1 + i = k + (i + 1) by omega] at this

/-- THE RULE, at a region that is written out: C: what holds of the world, by what is done; F: each operation's fact. -/
theorem wp_region_lit2 {id n : Nat} {Q : Exit → Act → World → Prop} {w : World} {l : List Oper} (C : (Nat → Bool) → (Nat → Value) → World → Prop) (F : Nat → Value → World → Prop) (hm : P.follows .mixedOrders = true) (ho : orderly l.toArray n = true) (hn : a0.tmps.size = n) (hC : ∀ vs, C (fun _ => false) vs w.drew)
    (hstep : stepsFrom P l.toArray C F a0 0 l)
    (hfin : ∀ (L : Nat → Bool) (vs : Nat → Value) (w' : World), (∀ i, i < l.length → L i = true) → C L vs w' → (∀ i, i < l.length → F i (vs i) w') → Q .normal (frameOf l.toArray vs (List.range l.length) a0) w') : (Code.region id l.toArray true).wp P Q a0 w :=
  wp_region_facts (C := C) (F := F) hm ho hn hC (fun i o hi => by
    have := steps_spec l 0 hstep i o (by simpa using hi)
    rwa [Nat.zero_add] at this) (fun L vs w' h0 h1 h2 => by simpa using hfin L vs w' (by simpa using h0) h1 (by simpa using h2))

/-- what is to be shown of operation i, where the world only grows -/
def stepG (P : Program) (ops : Array Oper) (C : World → Prop) (F : Nat → Value → World → Prop) (a0 : Act) (i : Nat) (o : Oper) : Prop :=
  ∀ (vs : Nat → Value) (w : World), C w → (∀ j ∈ waits o, F j (vs j) w) →
    if Region.wanted o (yielded ops (frameOf ops vs (waits o) a0).tmps) then o.wp P (frameOf ops vs (waits o) a0) w (fun a' w' => a'.defers = a0.defers ∧ C w' ∧ Kept [] w w' ∧ F i (valOf o a') w') noQ
    else F i undef w
def stepsG (P : Program) (ops : Array Oper) (C : World → Prop) (F : Nat → Value → World → Prop) (a0 : Act) : Nat → List Oper → Prop
  | _, [] => True
  | i, o :: r => Go.PBYtngdppffcdhhlaa.stepG P ops C F a0 i o ∧ stepsG P ops C F a0 (i + 1) r

theorem stepsG_imp {C : World → Prop} (hst : ∀ w w', Kept [] w w' → ∀ j v, F j v w → F j v w') : ∀ (l : List Oper) (k : Nat), stepsG P ops C F a0 k l → stepsFrom P ops (fun _ _ w => C w) F a0 k l
  | [], _, _ => trivial
  | o :: r, k, h => by
    refine ⟨fun L vs w _ _ _ hC hF => ?_, stepsG_imp hst r (k + 1) h.2⟩
    have := h.1 vs w hC hF
    split
    · rename_i hw
      rw [if_pos hw] at this
      unfold Oper.wp at this ⊢
      refine upon_imp this ?_ ?_
      · rintro v w' ⟨h1, h2, h3, h4⟩; exact ⟨h1, h2, hst _ _ h3, h4⟩
      · rintro d w' ⟨h1, _⟩
        have hd' : d :: (frameOf ops vs (waits o) a0).defers = a0.defers := by
          cases hod : o.dst <;> simpa [Act.put, hod] using h1
        rw [frameOf_defers] at hd'
        have := congrArg List.length hd'
        simp at this
    · rename_i hw
      rw [if_neg hw] at this
      exact ⟨hC, this⟩

/-- THE RULE where the world only grows: C: what holds throughout; F: each operation's fact, which stays. -/
theorem wp_region_lit {id n : Nat} {Q : Exit → Act → World → Prop} {w : World} {l : List Oper} (C : World → Prop) (F : Nat → Value → World → Prop) (hm : P.follows .mixedOrders = true) (ho : orderly l.toArray n = true) (hn : a0.tmps.size = n) (hC : C w.drew)
    (hst : ∀ w w', Kept [] w w' → ∀ j v, F j v w → F j v w') (hstep : stepsG P l.toArray C F a0 0 l)
    (hfin : ∀ (vs : Nat → Value) (w' : World), C w' → (∀ i, i < l.length → F i (vs i) w') → Q .normal (frameOf l.toArray vs (List.range l.length) a0) w') : (Code.region id l.toArray true).wp P Q a0 w :=
  wp_region_lit2 (fun _ _ w => C w) F hm ho hn (fun _ => hC) (stepsG_imp hst l 0 hstep) (fun _ vs w' _ h1 h2 => hfin vs w' h1 h2)


/-! ### the rule, with all that can be reckoned laid beside it -/
/-- slots that have come to values -/
def putsOf (vs : Nat → Value) : List (Nat × Nat) → Act → Act
  | [], a => a
  | p :: r, a => putsOf vs r (a.put (some p.1) (vs p.2))

/-- Beside each operation: what it waits for, each with its slot. -/
def tabled (ops : Array Oper) (l : List Oper) (Ws : List (List (Nat × Nat))) : Bool :=
  l.map (fun o => (waits o).filter fun j => ((ops[j]?).bind (·.dst)).isSome) == Ws.map (fun W => W.map (·.2)) &&
  Ws.all fun W => W.all fun p => (ops[p.2]?).bind (·.dst) == some p.1

theorem frameOf_puts (vs : Nat → Value) : ∀ (l : List Nat) (W : List (Nat × Nat)) (a : Act), (l.filter fun j => ((ops[j]?).bind (·.dst)).isSome) = W.map (·.2) → (∀ p ∈ W, (ops[p.2]?).bind (·.dst) = some p.1) → frameOf ops vs l a = putsOf vs W a
  | [], [], _, _, _ => rfl
  | [], p :: W, _, h, _ => by simp at h
  | j :: l, W, a, h, hW => by
    cases hd : (ops[j]?).bind (·.dst) with
    | none =>
      rw [List.filter_cons, hd] at h
      have e : frameOf ops vs (j :: l) a = frameOf ops vs l a := by rw [frameOf, hd]; rfl
      rw [e]
      exact frameOf_puts vs l W a (by simpa using h) hW
    | some d =>
      rw [List.filter_cons, hd] at h
      simp only [Option.isSome_some, if_true] at h
      cases W with
      | nil => simp at h
      | cons p W =>
        simp only [List.map_cons, List.cons.injEq] at h
        have h1 := hW p (by simp)
        rw [← h.1, hd, Option.some.injEq] at h1
        rw [frameOf, putsOf, hd, h1, h.1]
        exact frameOf_puts vs l W _ h.2 (fun q hq => hW q (by simp [hq]))

def stepsA (P : Program) (C : World → Prop) (F : Nat → Value → World → Prop) (a0 : Act) : Nat → List Oper → List (List (Nat × Nat)) → Prop
  | i, o :: r, W :: Ws => (∀ (vs : Nat → Value) (w : World), C w → (∀ p ∈ W, F p.2 (vs p.2) w) →
      ((match o.guard with | none => True | some (j, b) => vs j = .bool b ∧ (W.any (·.2 == j)) = true) ∧ o.wp P (putsOf vs W a0) w (fun a' w' => ∃ v, a' = (putsOf vs W a0).put o.dst v ∧ (o.dst = none → v = undef) ∧ C w' ∧ Kept [] w w' ∧ F i v w') noQ) ∨
      ((match o.guard with | none => False | some (j, b) => vs j ≠ .bool b ∧ (W.any (·.2 == j)) = true) ∧ F i undef w)) ∧ stepsA P C F a0 (i + 1) r Ws
  | _, _, _ => True

theorem putsOf_size (vs : Nat → Value) : ∀ (W : List (Nat × Nat)) (a : Act), (putsOf vs W a).tmps.size = a.tmps.size
  | [], _ => rfl
  | p :: W, a => by rw [putsOf, putsOf_size vs W, put_size]

theorem put_defers' {a : Act} {x : Option Tmp} {v : Value} : (a.put x v).defers = a.defers := by cases x <;> rfl
theorem putsOf_defers (vs : Nat → Value) : ∀ (W : List (Nat × Nat)) (a : Act), (putsOf vs W a).defers = a.defers
  | [], _ => rfl
  | p :: W, a => by rw [putsOf, putsOf_defers vs W, put_defers']
theorem put_value {o : Oper} {n : Nat} {a : Act} {v u : Value} (hd : ∀ d, o.dst = some d → d < n) (hn : a.tmps.size = n) (h : a.put o.dst v = a.put o.dst u) (h0 : o.dst = none → u = undef) : valOf o (a.put o.dst v) = u := by
  unfold valOf
  cases hdo : o.dst with
  | none => exact (h0 hdo).symm
  | some d =>
    simp only
    rw [hdo] at h
    rw [h]
    exact put_getD_same (by rw [hn]; exact hd d hdo)

theorem eraseDups_nodup : ∀ (l : List Nat), l.Nodup → l.eraseDups = l
  | [], _ => by simp
  | a :: l, h => by
    rw [List.eraseDups_cons]
    have h1 := List.nodup_cons.1 h
    have : l.filter (fun b => !b == a) = l := by
      rw [List.filter_eq_self]
      intro b hb
      have : b ≠ a := fun e => h1.1 (e ▸ hb)
      simpa using this
    rw [this, eraseDups_nodup l h1.2]

/-- THE RULE where the world only grows and every operation is carried out. -/
theorem wp_region_all {id n : Nat} {Q : Exit → Act → World → Prop} {w : World} {l : List Oper} (C : World → Prop) (F : Nat → Value → World → Prop) (Ws : List (List (Nat × Nat))) (D : List (Nat × Nat)) (hm : P.follows .mixedOrders = true)
    (ho : (orderly l.toArray n && tabled l.toArray l Ws && (l.length == Ws.length) && tabled l.toArray [{ (default : Oper) with after := ((List.range l.length).map fun i => (⟨i, .data⟩ : Edge)).toArray }] [D]) = true) (hn : a0.tmps.size = n) (hC : C w.drew)
    (hst : ∀ w w', Kept [] w w' → ∀ j v, F j v w → F j v w') (hstep : stepsA P C F a0 0 l Ws)
    (hfin : ∀ (vs : Nat → Value) (w' : World), C w' → (∀ i, i < l.length → F i (vs i) w') → Q .normal (putsOf vs D a0) w') : (Code.region id l.toArray true).wp P Q a0 w := by
  simp only [Bool.and_eq_true, beq_iff_eq] at ho
  obtain ⟨⟨⟨ho1, ho2⟩, ho3⟩, ho4⟩ := ho
  refine wp_region_lit (n := n) C F hm ho1 hn hC hst ?_ ?_
  · -- the steps
    have key : ∀ (m : List Oper) (Vs : List (List (Nat × Nat))) (k : Nat), tabled l.toArray m Vs = true → m.length = Vs.length → stepsA P C F a0 k m Vs → (∀ (i : Nat) (o : Oper), m[i]? = some o → l[k + i]? = some o) → stepsG P l.toArray C F a0 k m := by
      intro m
      induction m with
      | nil => intro _ _ _ _ _ _; trivial
      | cons o m ih =>
        intro Vs k ht hl hs hat
        cases Vs with
        | nil => simp at hl
        | cons W Vs =>
          simp only [tabled, List.map_cons, Bool.and_eq_true, beq_iff_eq, List.cons.injEq, List.all_cons] at ht
          obtain ⟨⟨ht1, ht2⟩, ht3, ht4⟩ := ht
          refine ⟨fun vs w hC hF => ?_, ih Vs (k + 1) (by simp only [tabled, Bool.and_eq_true, beq_iff_eq]; exact ⟨ht2, ht4⟩) (by simpa using hl) hs.2 (fun i o hi => by rw [show k + 1 + i = k + (i + 1) by omega]; exact hat (i + 1) o (by simpa using hi))⟩
          have hat0 : l.toArray[k]? = some o := by simpa using hat 0 o rfl
          have hW : ∀ p ∈ W, (l.toArray[p.2]?).bind (·.dst) = some p.1 := fun p hp => by simpa using List.all_eq_true.1 ht3 p hp
          rw [frameOf_puts vs (waits o) W a0 ht1 hW]
          have hFW : ∀ p ∈ W, F p.2 (vs p.2) w := by
            intro p hp
            have : p.2 ∈ (waits o).filter fun j => ((l.toArray[j]?).bind (·.dst)).isSome := by rw [ht1]; exact List.mem_map.2 ⟨p, hp, rfl⟩
            exact hF p.2 (List.mem_filter.1 this).1
          have hslot : ∀ q ∈ W, (putsOf vs W a0).tmps[q.1]? = some (vs q.2) := by
            intro q hq
            have hd := hW q hq
            have hjs : ∃ oj, l.toArray[q.2]? = some oj ∧ oj.dst = some q.1 := by
              obtain ⟨oj, h1, h2⟩ := Option.bind_eq_some_iff.1 hd
              exact ⟨oj, h1, h2⟩
            obtain ⟨oj, hoj, hdj⟩ := hjs
            have hqn := ((orderly_spec ho1 hoj).2.1 q.1 hdj).1
            have huniq : ∀ k, (l.toArray[k]?).bind (·.dst) = some q.1 → k = q.2 := by
              intro k hk
              obtain ⟨ok, hk1, hk2⟩ := Option.bind_eq_some_iff.1 hk
              exact ((orderly_spec ho1 hoj).2.1 q.1 hdj).2 k ok hk1 hk2
            have hmem : q.2 ∈ waits o := by
              have : q.2 ∈ (waits o).filter fun j => ((l.toArray[j]?).bind (·.dst)).isSome := by rw [ht1]; exact List.mem_map.2 ⟨q, hq, rfl⟩
              exact (List.mem_filter.1 this).1
            have := frameOf_at vs q.1 q.2 hd huniq (waits o) a0 (by rw [hn]; exact hqn) (.inr hmem)
            rwa [frameOf_puts vs (waits o) W a0 ht1 hW] at this
          rcases hs.1 vs w hC hFW with ⟨hg, hwp⟩ | ⟨hg, hu⟩
          case inr =>
            have hwant : Region.wanted o (yielded l.toArray (putsOf vs W a0).tmps) = false := by
              unfold Region.wanted
              cases hgd : o.guard with
              | none => rw [hgd] at hg; exact hg.elim
              | some p =>
                obtain ⟨j, b⟩ := p
                rw [hgd] at hg
                simp only at hg
                obtain ⟨hv, hany⟩ := hg
                obtain ⟨q, hq, hqj⟩ := List.any_eq_true.1 hany
                obtain rfl : q.2 = j := by simpa using hqj
                have h1 := hslot q hq
                simp only [yielded, hW q hq, Option.bind_some, h1]
                cases hx : vs q.2 with
                | bool b' =>
                  have : b' ≠ b := by intro e; subst e; exact hv hx
                  simp [this]
                | _ => simp
            rw [if_neg (by rw [hwant]; decide)]
            exact hu
          case inl =>
            have hwant : Region.wanted o (yielded l.toArray (putsOf vs W a0).tmps) = true := by
              unfold Region.wanted
              cases hgd : o.guard with
              | none => rfl
              | some p =>
                obtain ⟨j, b⟩ := p
                rw [hgd] at hg
                simp only at hg
                obtain ⟨hv, hany⟩ := hg
                obtain ⟨q, hq, hqj⟩ := List.any_eq_true.1 hany
                obtain rfl : q.2 = j := by simpa using hqj
                have hd := hW q hq
                have hjs : ∃ oj, l.toArray[q.2]? = some oj ∧ oj.dst = some q.1 := by
                  obtain ⟨oj, h1, h2⟩ := Option.bind_eq_some_iff.1 hd
                  exact ⟨oj, h1, h2⟩
                obtain ⟨oj, hoj, hdj⟩ := hjs
                have hqn := ((orderly_spec ho1 hoj).2.1 q.1 hdj).1
                have huniq : ∀ k, (l.toArray[k]?).bind (·.dst) = some q.1 → k = q.2 := by
                  intro k hk
                  obtain ⟨ok, hk1, hk2⟩ := Option.bind_eq_some_iff.1 hk
                  exact ((orderly_spec ho1 hoj).2.1 q.1 hdj).2 k ok hk1 hk2
                have hmem : q.2 ∈ waits o := by
                  have : q.2 ∈ (waits o).filter fun j => ((l.toArray[j]?).bind (·.dst)).isSome := by rw [ht1]; exact List.mem_map.2 ⟨q, hq, rfl⟩
                  exact (List.mem_filter.1 this).1
                have := frameOf_at vs q.1 q.2 hd huniq (waits o) a0 (by rw [hn]; exact hqn) (.inr hmem)
                rw [frameOf_puts vs (waits o) W a0 ht1 hW, hv] at this
                simp only [yielded, hd, Option.bind_some, this]
                simp
            rw [if_pos hwant]
            unfold Oper.wp at hwp ⊢
            refine upon_imp hwp ?_ ?_
            · rintro v w' ⟨u, h1, h2, h3, h4, h5⟩
              have hu := put_value (o := o) (n := n) (fun d hd => ((orderly_spec ho1 hat0).2.1 d hd).1) (by rw [putsOf_size]; exact hn) h1 h2
              rw [hu]
              exact ⟨by rw [h1, put_defers', putsOf_defers], h3, h4, h5⟩
            · rintro d w' ⟨u, h1, _⟩
              have := congrArg Act.defers h1
              rw [put_defers', put_defers'] at this
              have := congrArg List.length this
              simp at this
    exact key l Ws 0 ho2 ho3 hstep (fun i o hi => by rw [Nat.zero_add]; exact hi)
  · intro vs w' h1 h2
    have hr : waits { (default : Oper) with after := ((List.range l.length).map fun i => (⟨i, .data⟩ : Edge)).toArray } = List.range l.length := by
      unfold waits
      have : (((List.range l.length).map fun i => (⟨i, .data⟩ : Edge)).toArray.toList.filter (Region.binds .any)) = (List.range l.length).map fun i => (⟨i, .data⟩ : Edge) := by
        rw [List.filter_eq_self]
        intro e he
        obtain ⟨i, _, rfl⟩ := List.mem_map.1 (show e ∈ (List.range l.length).map fun i => (⟨i, .data⟩ : Edge) from he)
        rfl
      rw [this, List.map_map]
      have e : ((fun x : Edge => x.on) ∘ fun i => (⟨i, .data⟩ : Edge)) = _root_.id := by funext i; rfl
      rw [e, List.map_id]
      exact eraseDups_nodup _ List.nodup_range
    simp only [tabled, List.map_cons, List.map_nil, Bool.and_eq_true, beq_iff_eq, List.cons.injEq, List.all_cons, List.all_nil, and_true] at ho4
    rw [hr] at ho4
    rw [frameOf_puts vs (List.range l.length) D a0 ho4.1 (fun p hp => by simpa using List.all_eq_true.1 ho4.2 p hp)]
    exact hfin vs w' h1 h2


/-! ### the rule where some operations, one behind the other, change what is owned -/
/-- how many of the chain are done -/
def stage (Ls : List Nat) (L : Nat → Bool) : Nat := (Ls.filter L).length
/-- the value of the chain's last one that is done -/
def lastOf (Ls : List Nat) (vs : Nat → Value) : Nat → Value
  | 0 => undef
  | s + 1 => match Ls[s]? with | some j => vs j | none => undef

/-- each of the chain waits for the one ahead of it -/
def chained (ops : Array Oper) : List Nat → Bool
  | a :: b :: r => (match ops[b]? with | some o => (waits o).contains a | none => false) && chained ops (b :: r)
  | _ => true

def stepsC (P : Program) (Ls : List Nat) (C : Nat → Value → World → Prop) (F : Nat → Value → World → Prop) (a0 : Act) : Nat → List Oper → List (List (Nat × Nat)) → Prop
  | i, o :: r, W :: Ws => (∀ (s : Nat) (v : Value) (vs : Nat → Value) (w : World), (i ∈ Ls → Ls[s]? = some i) → v = lastOf Ls vs s → C s v w → (∀ p ∈ W, F p.2 (vs p.2) w) →
      (match o.guard with | none => True | some (j, b) => vs j = .bool b ∧ (W.any (·.2 == j)) = true) ∧ o.wp P (putsOf vs W a0) w (fun a' w' => ∃ u, a' = (putsOf vs W a0).put o.dst u ∧ (o.dst = none → u = undef) ∧ (if i ∈ Ls then C (s + 1) u w' else C s v w') ∧ (∀ j v, F j v w → F j v w') ∧ F i u w') noQ) ∧ stepsC P Ls C F a0 (i + 1) r Ws
  | _, _, _ => True

theorem chain_prefix {L : Nat → Bool} (hL : ∀ k ok, ops[k]? = some ok → L k = true → ∀ j ∈ waits ok, L j = true) : ∀ (M : List Nat), chained ops M = true → ∀ (s : Nat) (i : Nat), M[s]? = some i → L i = true → ∀ k, k < s → ∀ j, M[k]? = some j → L j = true
  | [], _, s, i, h, _, k, _, j, hj => by simp at h
  | [a], _, s, i, h, hi, k, hk, j, hj => by
    cases s with
    | zero => omega
    | succ s => simp at h
  | a :: b :: r, hM, s, i, h, hi, k, hk, j, hj => by
    simp only [chained, Bool.and_eq_true] at hM
    cases s with
    | zero => omega
    | succ s =>
      have ih := chain_prefix hL (b :: r) hM.2 s i (by simpa using h) hi
      cases k with
      | succ k => exact ih k (by omega) j (by simpa using hj)
      | zero =>
        simp at hj
        subst hj
        have hb : L b = true := by
          cases s with
          | zero => simp at h; subst h; exact hi
          | succ s => exact ih 0 (by omega) b rfl
        cases ho : ops[b]? with
        | none => rw [ho] at hM; simp at hM
        | some ob =>
          rw [ho] at hM
          exact hL b ob ho hb a (List.contains_iff_mem.1 hM.1)

theorem stage_at {Ls : List Nat} (hnd : Ls.Nodup) {L : Nat → Bool} (hpre : ∀ (s : Nat) (i : Nat), Ls[s]? = some i → L i = true → ∀ k, k < s → ∀ j, Ls[k]? = some j → L j = true) {p i : Nat} (hp : Ls[p]? = some i) (hi : L i = false)
    (hw : ∀ k, k < p → ∀ j, Ls[k]? = some j → L j = true) : stage Ls L = p ∧ stage Ls (also L i) = p + 1 := by
  have hlt : p < Ls.length := (List.getElem?_eq_some_iff.1 hp).1
  have hsplit : Ls = Ls.take p ++ i :: Ls.drop (p + 1) := by
    conv => lhs; rw [← List.take_append_drop p Ls]
    congr 1
    rw [List.drop_eq_getElem_cons hlt]
    congr 1
    exact (List.getElem?_eq_some_iff.1 hp).2
  have h1 : (Ls.take p).filter L = Ls.take p := by
    rw [List.filter_eq_self]
    intro j hj
    obtain ⟨k, hk⟩ := List.getElem?_of_mem hj
    rw [List.getElem?_take] at hk
    split at hk
    · rename_i hkp; exact hw k hkp j hk
    · simp at hk
  have h2 : (Ls.drop (p + 1)).filter L = [] := by
    rw [List.filter_eq_nil_iff]
    intro j hj hLj
    obtain ⟨k, hk⟩ := List.getElem?_of_mem hj
    rw [List.getElem?_drop] at hk
    have := hpre (p + 1 + k) j hk hLj p (by omega) i hp
    rw [hi] at this
    cases this
  have hni1 : i ∉ Ls.take p := by
    intro h
    rw [hsplit] at hnd
    exact (List.nodup_append.1 hnd).2.2 i h i (by simp) rfl
  have hni2 : i ∉ Ls.drop (p + 1) := by
    rw [hsplit] at hnd
    exact (List.nodup_cons.1 (List.nodup_append.1 hnd).2.1).1
  have h1' : (Ls.take p).filter (also L i) = Ls.take p := by
    rw [List.filter_eq_self]
    intro j hj
    have := List.filter_eq_self.1 h1 j hj
    unfold also; rw [this]; simp
  have h2' : (Ls.drop (p + 1)).filter (also L i) = [] := by
    rw [List.filter_eq_nil_iff]
    intro j hj h
    have := List.filter_eq_nil_iff.1 h2 j hj
    unfold also at h
    have hne : j ≠ i := fun e => hni2 (e ▸ hj)
    simp [hne] at h
    exact this h
  constructor
  · unfold stage
    rw [hsplit, List.filter_append, List.filter_cons, h1, h2, hi]
    simp
    omega
  · unfold stage
    rw [hsplit, List.filter_append, List.filter_cons, h1', h2']
    have : also L i i = true := by simp [also]
    rw [this]
    simp
    omega

theorem stage_other {Ls : List Nat} {L : Nat → Bool} {i : Nat} (hi : i ∉ Ls) : stage Ls (also L i) = stage Ls L := by
  unfold stage
  congr 1
  apply List.filter_congr
  intro j hj
  have hne : j ≠ i := fun e => hi (e ▸ hj)
  simp [also, hne]
theorem lastOf_other {Ls : List Nat} {vs : Nat → Value} {i : Nat} {v : Value} (hi : i ∉ Ls) (s : Nat) : lastOf Ls (came vs i v) s = lastOf Ls vs s := by
  cases s with
  | zero => rfl
  | succ s =>
    simp only [lastOf]
    cases hj : Ls[s]? with
    | none => rfl
    | some j =>
      have hne : j ≠ i := fun e => hi (e ▸ List.mem_of_getElem? hj)
      simp [came, hne]
theorem lastOf_at {Ls : List Nat} {vs : Nat → Value} {i p : Nat} {v : Value} (hp : Ls[p]? = some i) : lastOf Ls (came vs i v) (p + 1) = v := by
  simp [lastOf, hp, came]

/-- THE RULE, with a chain: every operation is carried out; those of the chain change what is owned, one behind the other. -/
theorem wp_region_chain {id n : Nat} {Q : Exit → Act → World → Prop} {w : World} {l : List Oper} (Ls : List Nat) (C : Nat → Value → World → Prop) (F : Nat → Value → World → Prop) (Ws : List (List (Nat × Nat))) (D : List (Nat × Nat)) (hm : P.follows .mixedOrders = true)
    (ho : (orderly l.toArray n && tabled l.toArray l Ws && (l.length == Ws.length) && tabled l.toArray [{ (default : Oper) with after := ((List.range l.length).map fun i => (⟨i, .data⟩ : Edge)).toArray }] [D] && chained l.toArray Ls && decide Ls.Nodup && Ls.all (fun j => decide (j < l.length))) = true)
    (hn : a0.tmps.size = n) (hC : C 0 undef w.drew) (hstep : stepsC P Ls C F a0 0 l Ws)
    (hfin : ∀ (vs : Nat → Value) (w' : World), C Ls.length (lastOf Ls vs Ls.length) w' → (∀ i, i < l.length → F i (vs i) w') → Q .normal (putsOf vs D a0) w') : (Code.region id l.toArray true).wp P Q a0 w := by
  simp only [Bool.and_eq_true, beq_iff_eq, decide_eq_true_eq] at ho
  obtain ⟨⟨⟨⟨⟨⟨ho1, ho2⟩, ho3⟩, ho4⟩, ho5⟩, ho6⟩, ho7⟩ := ho
  refine wp_region_lit2 (n := n) (fun L vs w => C (stage Ls L) (lastOf Ls vs (stage Ls L)) w) F hm ho1 hn ?_ ?_ ?_
  · intro vs
    have : stage Ls (fun _ => false) = 0 := by simp [stage]
    rw [this]
    exact hC
  · have key : ∀ (m : List Oper) (Vs : List (List (Nat × Nat))) (k : Nat), tabled l.toArray m Vs = true → m.length = Vs.length → stepsC P Ls C F a0 k m Vs → (∀ (i : Nat) (o : Oper), m[i]? = some o → l[k + i]? = some o) →
        stepsFrom P l.toArray (fun L vs w => C (stage Ls L) (lastOf Ls vs (stage Ls L)) w) F a0 k m := by
      intro m
      induction m with
      | nil => intro _ _ _ _ _ _; trivial
      | cons o m ih =>
        intro Vs k ht hl hs hat
        cases Vs with
        | nil => simp at hl
        | cons W Vs =>
          simp only [tabled, List.map_cons, Bool.and_eq_true, beq_iff_eq, List.cons.injEq, List.all_cons] at ht
          obtain ⟨⟨ht1, ht2⟩, ht3, ht4⟩ := ht
          refine ⟨fun L vs w hLk hLw hcl hC hF => ?_, ih Vs (k + 1) (by simp only [tabled, Bool.and_eq_true, beq_iff_eq]; exact ⟨ht2, ht4⟩) (by simpa using hl) hs.2 (fun i o hi => by rw [show k + 1 + i = k + (i + 1) by omega]; exact hat (i + 1) o (by simpa using hi))⟩
          have hko : l.toArray[k]? = some o := by simpa using hat 0 o rfl
          have hW : ∀ p ∈ W, (l.toArray[p.2]?).bind (·.dst) = some p.1 := fun p hp => by simpa using List.all_eq_true.1 ht3 p hp
          rw [frameOf_puts vs (waits o) W a0 ht1 hW]
          have hFW : ∀ p ∈ W, F p.2 (vs p.2) w := by
            intro p hp
            have : p.2 ∈ (waits o).filter fun j => ((l.toArray[j]?).bind (·.dst)).isSome := by rw [ht1]; exact List.mem_map.2 ⟨p, hp, rfl⟩
            exact hF p.2 (List.mem_filter.1 this).1
          have hpre : ∀ (s : Nat) (i : Nat), Ls[s]? = some i → L i = true → ∀ j, j < s → ∀ q, Ls[j]? = some q → L q = true := fun s i h1 h2 j h3 q h4 => chain_prefix (ops := l.toArray) hcl Ls ho5 s i h1 h2 j h3 q h4
          have hpos : ∀ p, Ls[p]? = some k → stage Ls L = p ∧ stage Ls (also L k) = p + 1 := by
            intro p hp
            refine stage_at ho6 hpre hp hLk ?_
            -- the one ahead of it is done
            cases p with
            | zero => intro j hj; omega
            | succ p =>
              have hplt : p + 1 < Ls.length := (List.getElem?_eq_some_iff.1 hp).1
              have hprev : ∃ q, Ls[p]? = some q := ⟨_, List.getElem?_eq_getElem (by omega)⟩
              obtain ⟨q, hq⟩ := hprev
              have hqw : q ∈ waits o := by
                have aux : ∀ (M : List Nat) (p : Nat), chained l.toArray M = true → M[p]? = some q → M[p + 1]? = some k → q ∈ waits o := by
                  intro M
                  induction M with
                  | nil => intro p _ h; simp at h
                  | cons a M ih =>
                    intro p hM h1 h2
                    cases M with
                    | nil => simp at h2
                    | cons b r =>
                      simp only [chained, Bool.and_eq_true] at hM
                      cases p with
                      | succ p => exact ih p hM.2 (by simpa using h1) (by simpa using h2)
                      | zero =>
                        simp at h1 h2
                        subst h1
                        subst h2
                        rw [hko] at hM
                        exact List.contains_iff_mem.1 hM.1
                exact aux Ls p ho5 hq hp
              intro j hj r hr
              by_cases hjp : j = p
              · subst hjp
                rw [hq] at hr
                cases hr
                exact hLw q hqw
              · exact hpre p q hq (hLw q hqw) j (by omega) r hr
          obtain ⟨hg, hwp⟩ := hs.1 (stage Ls L) (lastOf Ls vs (stage Ls L)) vs w (fun hk => by
            obtain ⟨p, hp⟩ := List.getElem?_of_mem hk
            rw [(hpos p hp).1]; exact hp) rfl hC hFW
          have hwant : Region.wanted o (yielded l.toArray (putsOf vs W a0).tmps) = true := by
            unfold Region.wanted
            cases hgd : o.guard with
            | none => rfl
            | some p =>
              obtain ⟨j, b⟩ := p
              rw [hgd] at hg
              simp only at hg
              obtain ⟨hv, hany⟩ := hg
              obtain ⟨q, hq, hqj⟩ := List.any_eq_true.1 hany
              obtain rfl : q.2 = j := by simpa using hqj
              have hd := hW q hq
              have hjs : ∃ oj, l.toArray[q.2]? = some oj ∧ oj.dst = some q.1 := by
                obtain ⟨oj, h1, h2⟩ := Option.bind_eq_some_iff.1 hd
                exact ⟨oj, h1, h2⟩
              obtain ⟨oj, hoj, hdj⟩ := hjs
              have hqn := ((orderly_spec ho1 hoj).2.1 q.1 hdj).1
              have huniq : ∀ k, (l.toArray[k]?).bind (·.dst) = some q.1 → k = q.2 := by
                intro k hk
                obtain ⟨ok, hk1, hk2⟩ := Option.bind_eq_some_iff.1 hk
                exact ((orderly_spec ho1 hoj).2.1 q.1 hdj).2 k ok hk1 hk2
              have hmem : q.2 ∈ waits o := by
                have : q.2 ∈ (waits o).filter fun j => ((l.toArray[j]?).bind (·.dst)).isSome := by rw [ht1]; exact List.mem_map.2 ⟨q, hq, rfl⟩
                exact (List.mem_filter.1 this).1
              have := frameOf_at vs q.1 q.2 hd huniq (waits o) a0 (by rw [hn]; exact hqn) (.inr hmem)
              rw [frameOf_puts vs (waits o) W a0 ht1 hW, hv] at this
              simp only [yielded, hd, Option.bind_some, this]
              simp
          rw [if_pos hwant]
          unfold Oper.wp at hwp ⊢
          refine upon_imp hwp ?_ ?_
          · rintro v w' ⟨u, h0, h0', h2, h3, h4⟩
            have hu := put_value (o := o) (n := n) (fun d hd => ((orderly_spec ho1 hko).2.1 d hd).1) (by rw [putsOf_size]; exact hn) h0 h0'
            rw [hu]
            refine ⟨by rw [h0, put_defers', putsOf_defers], ?_, h3, h4⟩
            by_cases hk : k ∈ Ls
            · rw [if_pos hk] at h2
              obtain ⟨p, hp⟩ := List.getElem?_of_mem hk
              obtain ⟨e1, e2⟩ := hpos p hp
              rw [e2, lastOf_at hp]
              rw [e1] at h2
              exact h2
            · rw [if_neg hk] at h2
              rw [stage_other hk, lastOf_other hk]
              exact h2
          · rintro d w' ⟨u, h1, _⟩
            have := congrArg Act.defers h1
            rw [put_defers', put_defers'] at this
            have := congrArg List.length this
            simp at this
    exact key l Ws 0 ho2 ho3 hstep (fun i o hi => by rw [Nat.zero_add]; exact hi)
  · intro L vs w' h0 h1 h2
    have hst : stage Ls L = Ls.length := by
      unfold stage
      congr 1
      rw [List.filter_eq_self]
      intro j hj
      exact h0 j (by simpa using List.all_eq_true.1 ho7 j hj)
    have hr : waits { (default : Oper) with after := ((List.range l.length).map fun i => (⟨i, .data⟩ : Edge)).toArray } = List.range l.length := by
      unfold waits
      have : (((List.range l.length).map fun i => (⟨i, .data⟩ : Edge)).toArray.toList.filter (Region.binds .any)) = (List.range l.length).map fun i => (⟨i, .data⟩ : Edge) := by
        rw [List.filter_eq_self]
        intro e he
        obtain ⟨i, _, rfl⟩ := List.mem_map.1 (show e ∈ (List.range l.length).map fun i => (⟨i, .data⟩ : Edge) from he)
        rfl
      rw [this, List.map_map]
      have e : ((fun x : Edge => x.on) ∘ fun i => (⟨i, .data⟩ : Edge)) = _root_.id := by funext i; rfl
      rw [e, List.map_id]
      exact eraseDups_nodup _ List.nodup_range
    simp only [tabled, List.map_cons, List.map_nil, Bool.and_eq_true, beq_iff_eq, List.cons.injEq, List.all_cons, List.all_nil, and_true] at ho4
    rw [hr] at ho4
    rw [frameOf_puts vs (List.range l.length) D a0 ho4.1 (fun p hp => by simpa using List.all_eq_true.1 ho4.2 p hp)]
    rw [hst] at h1
    exact hfin vs w' h1 h2


end

/-! ### facts as a list -/
def regF (l : List (Value → World → Prop)) (j : Nat) (v : Value) (w : World) : Prop := (l.getD j (fun _ _ => True)) v w
def Stable (p : Value → World → Prop) : Prop := ∀ w w', Kept [] w w' → ∀ v, p v w → p v w'
theorem Stable.eq (x : Value) : Stable (fun v _ => v = x) := fun _ _ _ _ h => h
theorem Stable.true : Stable (fun _ _ => True) := fun _ _ _ _ h => h
def allStable : List (Value → World → Prop) → Prop
  | [] => True
  | p :: r => Stable p ∧ allStable r
theorem regF_stable {l : List (Value → World → Prop)} (h : allStable l) : ∀ w w', Kept [] w w' → ∀ j v, regF l j v w → regF l j v w' := by
  intro w w' hK j v
  induction l generalizing j with
  | nil => intro h; exact h
  | cons p l ih =>
    cases j with
    | zero => exact h.1 w w' hK v
    | succ j => exact ih h.2 j

/-- facts that do not ask for the world -/
def Const (p : Value → World → Prop) : Prop := ∀ w w' v, p v w → p v w'
theorem Const.eq (x : Value) : Const (fun v _ => v = x) := fun _ _ _ h => h
theorem Const.true : Const (fun _ _ => True) := fun _ _ _ h => h
def allConst : List (Value → World → Prop) → Prop
  | [] => True
  | p :: r => Const p ∧ allConst r
theorem regF_const {l : List (Value → World → Prop)} (h : allConst l) {w w' : World} {j : Nat} {v : Value} (hF : regF l j v w) : regF l j v w' := by
  induction l generalizing j with
  | nil => exact hF
  | cons p l ih =>
    cases j with
    | zero => exact h.1 w w' v hF
    | succ j => exact ih h.2 hF
end Go.PBYtngdppffcdhhlaa
