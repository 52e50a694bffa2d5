/- Regions that leave their order open, where an operation may panic. No condition. -/
import Derived.Test.YtngdppffcdhhlaaPR
namespace Go.PBYtngdppffcdhhlaa
open Go Go.RowKit
set_option linter.unusedSimpArgs false
set_option linter.unusedVariables false

/-- where an operation may panic: what holds then -/
def pQ (Z : List PanicEntry → World → Prop) : Exit → Act → World → Prop
  | .panic ch, _, w => Z ch w
  | _, _, _ => False
section
variable {P : Program} {ops : Array Oper} {C : (Nat → Bool) → (Nat → Value) → World → Prop} {F : Nat → Value → World → Prop} {Z : List PanicEntry → World → Prop} {a0 : Act}
/-- What is to be shown of operation i. -/
def stepZ (P : Program) (ops : Array Oper) (C : (Nat → Bool) → (Nat → Value) → World → Prop) (F : Nat → Value → World → Prop) (Z : List PanicEntry → World → Prop) (a0 : Act) (i : Nat) (o : Oper) : Prop :=
  ∀ (L : Nat → Bool) (vs : Nat → Value) (w : World), L i = false → (∀ j ∈ waits o, L j = true) → (∀ k ok, ops[k]? = some ok → L k = true → ∀ j ∈ waits ok, L j = true) → C L vs w → (∀ j ∈ waits o, F j (vs j) w) →
    if Region.wanted o (yielded ops (frameOf ops vs (waits o) a0).tmps) then
      o.wp P (frameOf ops vs (waits o) a0) w (fun a' w' => a'.defers = a0.defers ∧ C (also L i) (came vs i (valOf o a')) w' ∧ (∀ j v, F j v w → F j v w') ∧ F i (valOf o a') w') (pQ Z)
    else C (also L i) (came vs i undef) w ∧ F i undef w

theorem upon_impZ {o : Oper} {a a' : Act} {r : Result Next} {K K' : Act → World → Prop} {Q' : Exit → Act → World → Prop} (h : o.upon P a K (pQ Z) r)
    (hk : ∀ v w, K (a.put o.dst v) w → K' (a'.put o.dst v) w) (hz : ∀ ch w, Z ch w → Q' (.panic ch) a' w) (hnod : ∀ d w, ¬ K ({ a with defers := d :: a.defers }.put o.dst undef) w) : o.upon P a' K' Q' r := by
  cases r with
  | ok n w =>
    cases n <;> simp only [Oper.upon] at h ⊢ <;> first | exact h.elim | skip
    case value v => exact hk _ _ h
    case skip => exact hk _ _ h
    case defer d => exact absurd h (hnod d w)
    case enter f args =>
      refine h.mono ?_
      intro e w' h'
      cases e with
      | returned v => exact hk _ _ h'
      | panicked c => exact hz _ _ h'
      | outgrown => obtain ⟨_, _, h''⟩ := h'; exact h''.elim
    case row s args =>
      refine h.mono ?_
      intro v w' h'
      exact hk _ _ h'
  | halt x w => cases x <;> simp only [Oper.upon] at h ⊢ <;> first | exact hz _ _ h | exact h

theorem rinv_stepZ {n : Nat} (ho : orderly ops n = true) (hn : a0.tmps.size = n) (hstep : ∀ i o, ops[i]? = some o → stepZ P ops C F Z a0 i o) {listed : Array Bool} {a : Act} {w : World} (H : RInv ops C F a0 listed a w) {Q : Exit → Act → World → Prop} (hZ : ∀ ch a w, a.tmps.size = n → a.defers = a0.defers → Z ch w → Q (.panic ch) a w)
    {i : Nat} (hi : i ∈ Region.ready .any ops listed) : wpOp P ops Q i (fun a' w' => RInv ops C F a0 (listed.setIfInBounds i true) a' w') a w := by
  obtain ⟨hl, o, hio, hpre⟩ := mem_ready.1 hi
  obtain ⟨hw1, hw2, hw3⟩ := orderly_spec ho hio
  have hil : i < listed.size := by rw [H.lsize]; exact (Array.getElem?_eq_some_iff.1 hio).1
  have hlf : listed.getD i false = false := by
    simp only [Array.getD_eq_getD_getElem?, Array.getElem?_eq_getElem hil, Option.getD_some] at hl ⊢
    exact hl
  have hwl : ∀ j ∈ waits o, listed.getD j false = true := by
    intro j hj
    obtain ⟨e, he, hb, rfl⟩ := of_mem_waits hj
    exact hpre e he hb
  let vs : Nat → Value := valAt ops a
  have hfacts : ∀ j ∈ waits o, F j (vs j) w := by
    intro j hj
    have hji := hw1 j hj
    have hjs : j < ops.size := by have := (Array.getElem?_eq_some_iff.1 hio).1; omega
    have hjo : ops[j]? = some ops[j] := Array.getElem?_eq_getElem hjs
    have := H.facts j _ hjo (hwl j hj)
    simp only [vs, valAt, hjo]
    exact this
  have hS := hstep i o hio (fun j => listed.getD j false) vs w hlf hwl (fun k ok hk hkl j hj => H.closed k ok hk hkl j hj) H.c hfacts
  -- the slots that are looked at
  have hsame : ∀ t ∈ o.looksAt ops, a.tmps[t]? = (frameOf ops vs (waits o) a0).tmps[t]? := by
    intro t ht
    by_cases hex : ∃ (j : Nat) (o' : Oper), ops[j]? = some o' ∧ o'.dst = some t
    · obtain ⟨j, o', hj, hd⟩ := hex
      have huniq : ∀ k, (ops[k]?).bind (·.dst) = some t → k = j := by
        intro k hk
        obtain ⟨ok, hk1, hk2⟩ := Option.bind_eq_some_iff.1 hk
        exact ((orderly_spec ho hj).2.1 t hd).2 k ok hk1 hk2
      have hnot : j ∉ waits o → (frameOf ops vs (waits o) a0).tmps[t]? = a0.tmps[t]? := by
        intro hjw
        refine frameOf_other vs t (waits o) a0 (fun k hk hkd => ?_)
        exact hjw (huniq k hkd ▸ hk)
      have hfree : listed.getD j false = false → a.tmps[t]? = a0.tmps[t]? := by
        intro hjl
        refine H.free t (fun k ok hk hkd => ?_)
        have : k = j := huniq k (by rw [hk]; exact hkd)
        rw [this]; exact hjl
      rcases hw3 j o' t hj hd ht with h | h | h
      · have htn := ((orderly_spec ho hj).2.1 t hd).1
        have hta : t < a.tmps.size := by rw [H.size, hn]; exact htn
        rw [frameOf_at vs t j (by rw [hj]; exact hd) huniq (waits o) a0 (by rw [hn]; exact htn) (.inr h)]
        simp only [vs, valAt, hj, valOf, hd]
        rw [Array.getElem?_eq_getElem hta, Array.getD_eq_getD_getElem?, Array.getElem?_eq_getElem hta]
        rfl
      · subst h
        have hnw : j ∉ waits o := fun h => by have := hw1 j h; omega
        rw [hnot hnw, hfree hlf]
      · have hnl : listed.getD j false = false := by
          cases hc : listed.getD j false with
          | false => rfl
          | true => have := H.closed j o' hj hc i h; rw [hlf] at this; cases this
        have hnw : j ∉ waits o := fun h' => by have h1 := hw1 j h'; have h2 := (orderly_spec ho hj).1 i h; omega
        rw [hnot hnw, hfree hnl]
    · have h1 : (frameOf ops vs (waits o) a0).tmps[t]? = a0.tmps[t]? := by
        refine frameOf_other vs t (waits o) a0 (fun k _ hkd => ?_)
        obtain ⟨ok, hk1, hk2⟩ := Option.bind_eq_some_iff.1 hkd
        exact hex ⟨k, ok, hk1, hk2⟩
      rw [h1]
      exact H.free t (fun k ok hk hkd => absurd ⟨k, ok, hk, hkd⟩ hex)
  have hsel : ∀ cs b, o.op ≠ .select cs b := by
    intro cs b
    simp only [orderly, Bool.and_eq_true] at ho
    exact Region.noSelect_spec ho.1 i o cs b hio
  have hexec : execOp a.eval o = execOp (frameOf ops vs (waits o) a0).eval o := by
    refine execOp_congr o hsel (fun x hx => ?_)
    cases x with
    | tmp t =>
      have := hsame t (by unfold Oper.looksAt; exact List.mem_append.2 (.inl (List.mem_filterMap.2 ⟨_, Array.mem_toList_iff.2 hx, rfl⟩)))
      simp only [Act.eval, Array.getD_eq_getD_getElem?, this]
    | const v => rfl
    | global g => rfl
    | func f => rfl
  have hwant : Region.wanted o (yielded ops a.tmps) = Region.wanted o (yielded ops (frameOf ops vs (waits o) a0).tmps) := by
    unfold Region.wanted
    cases hg : o.guard with
    | none => rfl
    | some p =>
      obtain ⟨j, b⟩ := p
      simp only
      congr 1
      unfold yielded
      cases hd : (ops[j]?).bind (·.dst) with
      | none => rfl
      | some d =>
        have := hsame d (by unfold Oper.looksAt; rw [hg]; simp only [hd]; exact List.mem_append.2 (.inr (by simp)))
        simp only [Option.bind_some, this]
  -- what the new state is
  have hnew : ∀ v w', C (also (fun j => listed.getD j false) i) (came vs i (match o.dst with | some _ => v | none => undef)) w' → (∀ j v, F j v w → F j v w') → F i (match o.dst with | some _ => v | none => undef) w' → RInv ops C F a0 (listed.setIfInBounds i true) (a.put o.dst v) w' := by
    intro v w' hC hR hF
    have hset : ∀ j, (listed.setIfInBounds i true).getD j false = true → j ≠ i → listed.getD j false = true := by
      intro j hj hne
      rwa [getD_set_ne false (Ne.symm hne)] at hj
    have hL : (fun j => (listed.setIfInBounds i true).getD j false) = also (fun j => listed.getD j false) i := by
      funext j
      unfold also
      by_cases hji : j = i
      · subst hji; simp [Array.getD_eq_getD_getElem?, hil]
      · rw [getD_set_ne false (Ne.symm hji)]; simp [hji]
    have hV : valAt ops (a.put o.dst v) = came vs i (match o.dst with | some _ => v | none => undef) := by
      funext j
      unfold came
      by_cases hji : j = i
      · subst hji
        simp only [valAt, hio, valOf, if_true]
        cases hd : o.dst with
        | none => rfl
        | some d => exact put_getD_same (by rw [H.size, hn]; exact (hw2 d hd).1)
      · simp only [hji, if_false, vs, valAt]
        cases hj : ops[j]? with
        | none => rfl
        | some oj =>
          simp only [valOf]
          cases hd : oj.dst with
          | none => rfl
          | some d => exact put_getD_ne (fun he => hji ((hw2 d he).2 j oj hj hd))
    refine ⟨by rw [hL, hV]; exact hC, ?_, by rw [put_size]; exact H.size, by simpa using H.lsize, ?_, ?_, ?_⟩
    · rw [← H.defers]; cases o.dst <;> rfl
    · intro j oj hj hjl k hk
      refine getD_set_true ?_
      by_cases hji : j = i
      · subst hji; rw [hio] at hj; cases hj; exact hwl k hk
      · exact H.closed j oj hj (hset j hjl hji) k hk
    · intro s hs
      have hne : o.dst ≠ some s := by
        intro he
        have := hs i o hio he
        simp [Array.getD_eq_getD_getElem?, hil] at this
      rw [put_getElem_ne hne]
      refine H.free s (fun k ok hk hkd => ?_)
      have h1 := hs k ok hk hkd
      by_cases hki : k = i
      · subst hki; exact hlf
      · rwa [getD_set_ne false (Ne.symm hki)] at h1
    · intro j oj hj hjl
      by_cases hji : j = i
      · subst hji
        rw [hio] at hj
        cases hj
        cases hd : o.dst with
        | none => simpa [valOf, hd] using hF
        | some d =>
          have hdn := (hw2 d hd).1
          simp only [hd] at hF
          simp only [valOf, hd]
          rw [put_getD_same (by rw [H.size, hn]; exact hdn)]
          exact hF
      · have h1 := H.facts j oj hj (hset j hjl hji)
        have h2 := hR j _ h1
        have e : valOf oj (a.put o.dst v) = valOf oj a := by
          unfold valOf
          cases hd : oj.dst with
          | none => rfl
          | some d =>
            simp only
            refine put_getD_ne (fun he => ?_)
            exact hji ((hw2 d he).2 j oj hj hd)
        rw [e]
        exact h2
  unfold wpOp
  simp only [hio]
  rw [hwant]
  by_cases hwt : Region.wanted o (yielded ops (frameOf ops vs (waits o) a0).tmps) = true
  · rw [if_pos hwt] at hS ⊢
    refine .inl ?_
    unfold Oper.wp at hS ⊢
    rw [hexec]
    refine upon_impZ hS ?_ (fun ch w' h => hZ ch a w' (H.size.trans hn) H.defers h) ?_
    · rintro v w' ⟨_, hC, hR, hF⟩
      have hval : valOf o ((frameOf ops vs (waits o) a0).put o.dst v) = (match o.dst with | some _ => v | none => undef) := by
        unfold valOf
        cases hd : o.dst with
        | none => rfl
        | some d => exact put_getD_same (by rw [frameOf_size, hn]; exact (hw2 d hd).1)
      rw [hval] at hC hF
      exact hnew v w' hC hR hF
    · rintro d w' ⟨hd, _⟩
      have hd' : d :: (frameOf ops vs (waits o) a0).defers = a0.defers := by
        cases hod : o.dst <;> simpa [Act.put, hod] using hd
      rw [frameOf_defers] at hd'
      have := congrArg List.length hd'
      simp at this
  · rw [if_neg hwt] at hS ⊢
    have hval : (match o.dst with | some _ => undef | none => undef) = undef := by cases o.dst <;> rfl
    refine hnew undef w ?_ (fun _ _ h => h) ?_
    · rw [hval]; exact hS.1
    · rw [hval]; exact hS.2


theorem rinv_anyZ {n : Nat} (ho : orderly ops n = true) (hn : a0.tmps.size = n) (hstep : ∀ i o, ops[i]? = some o → stepZ P ops C F Z a0 i o) {Q : Exit → Act → World → Prop} (hZ : ∀ ch a w, a.tmps.size = n → a.defers = a0.defers → Z ch w → Q (.panic ch) a w)
    (hfin : ∀ listed a w, RInv ops C F a0 listed a w → Region.ready .any ops listed = [] → Q .normal a w) : ∀ (fuel : Nat) (listed : Array Bool) (a : Act) (w : World),
    RInv ops C F a0 listed a w → (List.range ops.size).countP (fun j => !listed.getD j false) ≤ fuel → wpAny P .any ops Q fuel listed a w
  | 0, listed, a, w, H, hf => by
    have hr : Region.ready .any ops listed = [] := by
      rw [List.eq_nil_iff_forall_not_mem]
      intro i hi
      obtain ⟨hl, o, hio, _⟩ := mem_ready.1 hi
      have hil : i < ops.size := (Array.getElem?_eq_some_iff.1 hio).1
      have h0 := List.countP_eq_zero.1 (Nat.le_zero.1 hf) i (List.mem_range.2 hil)
      have hil' : i < listed.size := by rw [H.lsize]; exact hil
      simp only [Array.getD_eq_getD_getElem?, Array.getElem?_eq_getElem hil', Option.getD_some] at hl h0
      simp [hl] at h0
    exact ⟨hr, hfin _ _ _ H hr⟩
  | fuel + 1, listed, a, w, H, hf => by
    refine ⟨hfin _ _ _ H, fun i hi => ?_⟩
    refine wpOp_mono (fun a' w' H' => rinv_anyZ ho hn hstep hZ hfin fuel _ a' w' H' ?_) (rinv_stepZ ho hn hstep H hZ hi)
    obtain ⟨hl, o, hio, _⟩ := mem_ready.1 hi
    have hil : i < ops.size := (Array.getElem?_eq_some_iff.1 hio).1
    have hil' : i < listed.size := by rw [H.lsize]; exact hil
    have hlf : listed.getD i false = false := by
      simp only [Array.getD_eq_getD_getElem?, Array.getElem?_eq_getElem hil', Option.getD_some] at hl ⊢
      exact hl
    have key : ∀ (l : List Nat), l.Nodup → i ∈ l → l.countP (fun j => !(listed.setIfInBounds i true).getD j false) + 1 ≤ l.countP (fun j => !listed.getD j false) := by
      intro l
      induction l with
      | nil => intro _ h; cases h
      | cons x l ih =>
        intro hnd hm
        rw [List.countP_cons, List.countP_cons]
        have hle : ∀ (l : List Nat), l.countP (fun j => !(listed.setIfInBounds i true).getD j false) ≤ l.countP (fun j => !listed.getD j false) := by
          intro l
          refine List.countP_mono_left (fun j _ hj => ?_)
          cases hc : listed.getD j false with
          | false => rfl
          | true => rw [getD_set_true hc] at hj; cases hj
        by_cases hx : x = i
        · subst hx
          have h1 : (listed.setIfInBounds x true).getD x false = true := by simp [Array.getD_eq_getD_getElem?, hil']
          have := hle l
          rw [h1, hlf]
          simpa using this
        · have hm' : i ∈ l := by rcases List.mem_cons.1 hm with h | h; exact absurd h.symm hx; exact h
          have h1 := ih (List.nodup_cons.1 hnd).2 hm'
          rw [getD_set_ne false (fun h => hx h.symm)]
          omega
    have := key (List.range ops.size) List.nodup_range (List.mem_range.2 hil)
    omega

theorem wp_region_factsZ {id n : Nat} {Q : Exit → Act → World → Prop} {w : World} (hm : P.follows .mixedOrders = true) (ho : orderly ops n = true) (hn : a0.tmps.size = n) (hZ : ∀ ch a w, a.tmps.size = n → a.defers = a0.defers → Z ch w → Q (.panic ch) a w) (hC : ∀ vs, C (fun _ => false) vs w.drew)
    (hstep : ∀ i o, ops[i]? = some o → stepZ P ops C F Z a0 i o)
    (hfin : ∀ (L : Nat → Bool) (vs : Nat → Value) (w' : World), (∀ i, i < ops.size → L i = true) → C L vs w' → (∀ i, i < ops.size → F i (vs i) w') → Q .normal (frameOf ops vs (List.range ops.size) a0) w') : (Code.region id ops true).wp P Q a0 w := by
  have hfalse : (fun j => (Array.replicate ops.size false).getD j false) = fun _ => false := by
    funext j
    simp only [Array.getD_eq_getD_getElem?, Array.getElem?_replicate]
    split <;> rfl
  refine wp_region_any hm (rinv_anyZ (C := C) (F := F) ho hn hstep hZ ?_ ops.size _ a0 _ ⟨by rw [hfalse]; exact hC _, rfl, rfl, by simp, ?_, fun _ _ => rfl, ?_⟩ ?_)
  · intro listed a w' H hr
    -- all are listed
    have hall : ∀ k, k ≤ ops.size → ∀ i, i < k → listed.getD i false = true := by
      intro k
      induction k with
      | zero => intro _ i hi; omega
      | succ k ih =>
        intro hk i hi
        by_cases hik : i = k
        · subst hik
          cases hc : listed.getD i false with
          | true => rfl
          | false =>
            exfalso
            have hio : ops[i]? = some ops[i] := Array.getElem?_eq_getElem (by omega)
            have hil : i < listed.size := by rw [H.lsize]; omega
            have : i ∈ Region.ready .any ops listed := by
              refine mem_ready.2 ⟨?_, _, hio, ?_⟩
              · simp only [Array.getD_eq_getD_getElem?, Array.getElem?_eq_getElem hil, Option.getD_some] at hc ⊢
                exact hc
              · intro e he hb
                have hlt := (orderly_spec ho hio).1 e.on (mem_waits he hb)
                exact ih (by omega) e.on hlt
            rw [hr] at this
            cases this
        · exact ih (by omega) i (by omega)
    let vs : Nat → Value := valAt ops a
    have hfr : a = frameOf ops vs (List.range ops.size) a0 := by
      obtain ⟨tm, df⟩ := a
      have hd : (frameOf ops vs (List.range ops.size) a0).defers = df := by rw [frameOf_defers]; exact H.defers.symm
      have ht : (frameOf ops vs (List.range ops.size) a0).tmps = tm := by
        apply Array.ext_getElem?
        intro s
        by_cases hex : ∃ (j : Nat) (o' : Oper), ops[j]? = some o' ∧ o'.dst = some s
        · obtain ⟨j, o', hj, hds⟩ := hex
          have huniq : ∀ k, (ops[k]?).bind (·.dst) = some s → k = j := by
            intro k hk
            obtain ⟨ok, hk1, hk2⟩ := Option.bind_eq_some_iff.1 hk
            exact ((orderly_spec ho hj).2.1 s hds).2 k ok hk1 hk2
          have hsn := ((orderly_spec ho hj).2.1 s hds).1
          have hsa : s < tm.size := by have h1 : tm.size = a0.tmps.size := H.size; rw [h1, hn]; exact hsn
          rw [frameOf_at vs s j (by rw [hj]; exact hds) huniq _ a0 (by rw [hn]; exact hsn) (.inr (List.mem_range.2 (Array.getElem?_eq_some_iff.1 hj).1))]
          simp only [vs, valAt, hj, valOf, hds]
          rw [Array.getElem?_eq_getElem hsa, Array.getD_eq_getD_getElem?, Array.getElem?_eq_getElem hsa]
          rfl
        · rw [frameOf_other vs s]
          · exact (H.free s (fun k ok hk hkd => absurd ⟨k, ok, hk, hkd⟩ hex)).symm
          · intro k _ hkd
            obtain ⟨ok, hk1, hk2⟩ := Option.bind_eq_some_iff.1 hkd
            exact hex ⟨k, ok, hk1, hk2⟩
      cases hfa : frameOf ops vs (List.range ops.size) a0 with
      | mk t d => rw [hfa] at hd ht; simp only at hd ht; rw [hd, ht]
    rw [hfr]
    refine hfin _ vs w' (fun i hi => hall ops.size (Nat.le_refl _) i hi) H.c (fun i hi => ?_)
    have hio : ops[i]? = some ops[i] := Array.getElem?_eq_getElem hi
    have := H.facts i _ hio (hall ops.size (Nat.le_refl _) i hi)
    simp only [vs, valAt, hio]
    exact this
  · intro i o hi hl
    have hlt := (Array.getElem?_eq_some_iff.1 hi).1
    simp [Array.getD_eq_getD_getElem?, hlt] at hl
  · intro i o hi hl
    have hlt := (Array.getElem?_eq_some_iff.1 hi).1
    simp [Array.getD_eq_getD_getElem?, hlt] at hl
  · exact Nat.le_trans List.countP_le_length (by simp)

end
end Go.PBYtngdppffcdhhlaa
