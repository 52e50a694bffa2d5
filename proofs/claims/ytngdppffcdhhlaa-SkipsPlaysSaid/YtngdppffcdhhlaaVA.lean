/- A walk without worlds and frames: what is known of the slots (an environment), what is owned (a list), and what is to be shown of code from there on. No condition. -/
import Derived.Test.YtngdppffcdhhlaaPR
import Derived.Test.YtngdppffcdhhlaaPS
namespace Go.PBYtngdppffcdhhlaa
open Go Go.RowKit
set_option linter.unusedSimpArgs false
set_option linter.unusedVariables false

/-! ### what is known of the slots -/
abbrev Env := List (Tmp × Value)
def look (t : Tmp) : Env → Option Value
  | [] => none
  | (s, v) :: r => match Nat.beq t s with
    | true => some v
    | false => look t r
def evalE (env : Env) : Operand → Option Value
  | .tmp t => look t env
  | .const v => some v
  | .global g => some (.pointer (some ⟨g, 0, none⟩))
  | .func f => some (.func (.func f) #[] #[])
def evalsE (env : Env) : List Operand → Option (List Value)
  | [] => some []
  | x :: r => match evalE env x with
    | some v => match evalsE env r with
      | some vs => some (v :: vs)
      | none => none
    | none => none
structure Models (n : Nat) (env : Env) (a : Act) : Prop where
  size : a.tmps.size = n
  defers : a.defers = []
  get : ∀ t v, look t env = some v → a.tmps[t]? = some v

def dstOk (n : Nat) : Option Tmp → Bool
  | none => true
  | some d => Nat.ble (d + 1) n
def ext (dst : Option Tmp) (v : Value) (env : Env) : Env :=
  match dst with
  | some d => (d, v) :: env
  | none => env

theorem look_cons (t s : Tmp) (v : Value) (r : Env) : look t ((s, v) :: r) = if t = s then some v else look t r := by
  show (match Nat.beq t s with | true => some v | false => look t r) = _
  cases hb : Nat.beq t s with
  | true => rw [if_pos (Nat.eq_of_beq_eq_true hb)]
  | false => rw [if_neg (Nat.ne_of_beq_eq_false hb)]
theorem Models.eval {n : Nat} {env : Env} {a : Act} (h : Models n env a) {x : Operand} {v : Value} (hx : evalE env x = some v) : a.eval x = v := by
  cases x with
  | tmp t =>
    have := h.get t v hx
    simp [Act.eval, Array.getD_eq_getD_getElem?, this]
  | const u => simpa [evalE, Act.eval] using hx
  | global g => simpa [evalE, Act.eval] using hx
  | func f => simpa [evalE, Act.eval] using hx
theorem Models.evals {n : Nat} {env : Env} {a : Act} (h : Models n env a) : ∀ {xs : List Operand} {vs : List Value}, evalsE env xs = some vs → xs.map a.eval = vs
  | [], vs, e => by simpa [evalsE] using e
  | x :: r, vs, e => by
    unfold evalsE at e
    cases hx : evalE env x with
    | none => rw [hx] at e; simp at e
    | some v =>
      rw [hx] at e
      simp only at e
      cases hr : evalsE env r with
      | none => rw [hr] at e; simp at e
      | some us =>
        rw [hr] at e
        simp only [Option.some.injEq] at e
        subst e
        rw [List.map_cons, h.eval hx, h.evals hr]
theorem Models.put {n : Nat} {env : Env} {a : Act} (h : Models n env a) {dst : Option Tmp} (hd : dstOk n dst = true) (v : Value) : Models n (ext dst v env) (a.put dst v) := by
  cases dst with
  | none => exact h
  | some d =>
    have hd' : d < a.tmps.size := by
      rw [h.size]
      have h1 : d + 1 ≤ n := Nat.le_of_ble_eq_true hd
      exact h1
    refine ⟨?_, h.defers, ?_⟩
    · simp [Act.put, h.size]
    · intro t u ht
      simp only [ext] at ht
      rw [look_cons] at ht
      split at ht
      · rename_i e
        subst e
        simp only [Option.some.injEq] at ht
        subst ht
        exact put_getElem_same hd'
      · rename_i e
        rw [put_getElem_ne (by simpa using fun h => e h.symm)]
        exact h.get t u ht
def par : Nat → List Value → Env
  | _, [] => []
  | k, v :: r => (k, v) :: par (k + 1) r
theorem look_par : ∀ (vs : List Value) (k t : Nat) (v : Value), look t (par k vs) = some v → k ≤ t ∧ vs[t - k]? = some v
  | [], k, t, v, h => by simp [par, look] at h
  | u :: r, k, t, v, h => by
    rw [par, look_cons] at h
    split at h
    · rename_i e; subst e; exact ⟨Nat.le_refl _, by simpa using h⟩
    · rename_i e
      have ih := look_par r (k + 1) t v h
      refine ⟨by omega, ?_⟩
      rw [show t - k = (t - (k + 1)) + 1 by omega]
      simpa using ih.2
theorem Models.enter (n : Nat) (args : List Value) (h : args.length ≤ n) : Models n (par 0 args) { tmps := args.toArray ++ Array.replicate (n - args.toArray.size) undef, defers := [] } := by
  refine ⟨by simp; omega, rfl, ?_⟩
  intro t v ht
  have := (look_par args 0 t v ht).2
  simp only [Nat.sub_zero] at this
  have hl := (List.getElem?_eq_some_iff.1 this).1
  rw [Array.getElem?_append_left (by simpa using hl)]
  simpa using this
/-- fewer slots are told -/
def Sub (env env' : Env) : Prop := ∀ t v, look t env' = some v → look t env = some v
theorem Sub.refl (env : Env) : Sub env env := fun _ _ h => h
theorem Sub.nil (env : Env) : Sub env [] := by intro t v h; simp [look] at h
theorem Sub.cons {env env' : Env} {s : Tmp} {v : Value} (h : look s env = some v) (hs : Sub env env') : Sub env ((s, v) :: env') := by
  intro t u ht
  rw [look_cons] at ht
  split at ht
  · rename_i e; subst e; rw [h, ← ht]
  · exact hs t u ht
theorem Models.sub {n : Nat} {env env' : Env} {a : Act} (h : Models n env a) (hs : Sub env env') : Models n env' a := ⟨h.size, h.defers, fun t v ht => h.get t v (hs t v ht)⟩

/-! ### what is owned: some of it -/
def pick (L : List Res) : List Nat → Option (List Res)
  | [] => some []
  | k :: r => match L[k]? with
    | some x => match pick L r with
      | some xs => some (x :: xs)
      | none => none
    | none => none
theorem pick_spec {L : List Res} : ∀ {ks : List Nat} {M : List Res}, pick L ks = some M → M.length = ks.length ∧ ∀ (i : Nat) (x : Res), M[i]? = some x → ∃ k, ks[i]? = some k ∧ L[k]? = some x
  | [], M, h => by simp only [pick, Option.some.injEq] at h; subst h; simp
  | k :: r, M, h => by
    unfold pick at h
    cases hk : L[k]? with
    | none => rw [hk] at h; simp at h
    | some x =>
      rw [hk] at h
      simp only at h
      cases hr : pick L r with
      | none => rw [hr] at h; simp at h
      | some xs =>
        rw [hr] at h
        simp only [Option.some.injEq] at h
        subst h
        have ih := pick_spec hr
        refine ⟨by simp [ih.1], ?_⟩
        intro i y hi
        cases i with
        | zero => simp only [List.getElem?_cons_zero, Option.some.injEq] at hi; subst hi; exact ⟨k, rfl, hk⟩
        | succ i => simpa using ih.2 i y (by simpa using hi)
theorem St.pick {S : List Nat} {w0 w : World} {L M : List Res} (H : St S w0 L w) {ks : List Nat} (hnd : ks.Nodup) (h : pick L ks = some M) : St S w0 M w := by
  have hs := pick_spec h
  have hmem : ∀ r ∈ M, r ∈ L := by
    intro r hr
    obtain ⟨i, hi⟩ := List.mem_iff_getElem?.1 hr
    obtain ⟨k, _, hk⟩ := hs.2 i r hi
    exact List.mem_of_getElem? hk
  refine ⟨H.kept, fun r hr => H.ok r (hmem r hr), fun r hr => H.new r (hmem r hr), ?_⟩
  rw [List.pairwise_iff_getElem]
  intro i j hi hj hij b hb
  obtain ⟨k1, h1, h2⟩ := hs.2 i _ (List.getElem?_eq_getElem hi)
  obtain ⟨k2, h3, h4⟩ := hs.2 j _ (List.getElem?_eq_getElem hj)
  have hne : k1 ≠ k2 := by
    intro e
    subst e
    have := (List.getElem?_inj (by rw [← hs.1]; exact hi) hnd).1 (h1.trans h3.symm)
    omega
  have hp := List.pairwise_iff_getElem.1 H.apart
  have hk1 := (List.getElem?_eq_some_iff.1 h2)
  have hk2 := (List.getElem?_eq_some_iff.1 h4)
  rcases Nat.lt_or_gt_of_ne hne with hlt | hlt
  · have := hp k1 k2 hk1.1 hk2.1 hlt b (by rw [hk1.2]; exact hb)
    rwa [hk2.2] at this
  · intro hb2
    have := hp k2 k1 hk2.1 hk1.1 hlt b (by rw [hk2.2]; exact hb2)
    rw [hk1.2] at this
    exact this hb
/-- those of ks, of the first m, and all behind these -/
theorem St.pickR {S : List Nat} {w0 w : World} {L M R : List Res} (m : Nat) (H : St S w0 L w) {ks : List Nat} (hnd : ks.Nodup) (hlt : ∀ k ∈ ks, k < m) (h : PBYtngdppffcdhhlaa.pick L ks = some M) (hR : L.drop m = R) : St S w0 (M ++ R) w := by
  have hsplit : L = L.take m ++ L.drop m := (List.take_append_drop m L).symm
  have hp : PBYtngdppffcdhhlaa.pick (L.take m) ks = some M := by
    have key : ∀ (ks : List Nat) (M : List Res), (∀ k ∈ ks, k < m) → PBYtngdppffcdhhlaa.pick L ks = some M → PBYtngdppffcdhhlaa.pick (L.take m) ks = some M := by
      intro ks
      induction ks with
      | nil => intro M _ h; exact h
      | cons k r ih =>
        intro M hl h
        unfold PBYtngdppffcdhhlaa.pick at h ⊢
        rw [List.getElem?_take, if_pos (hl k (by simp))]
        cases hk : L[k]? with
        | none => rw [hk] at h; simp at h
        | some x =>
          rw [hk] at h
          simp only at h ⊢
          cases hr : PBYtngdppffcdhhlaa.pick L r with
          | none => rw [hr] at h; simp at h
          | some xs => rw [ih xs (fun k hk => hl k (by simp [hk])) hr]; rw [hr] at h; exact h
    exact key ks M hlt h
  subst hR
  have H1 : St S w0 (L.take m ++ L.drop m) w := by rw [← hsplit]; exact H
  have Hm := H1.sub (List.sublist_append_left _ _)
  have Hr := H1.sub (List.sublist_append_right _ _)
  have Hp := Hm.pick hnd hp
  have hs := pick_spec hp
  refine ⟨H.kept, ?_, ?_, List.pairwise_append.2 ⟨Hp.apart, Hr.apart, ?_⟩⟩
  · intro r hr
    rcases List.mem_append.1 hr with h | h
    · exact Hp.ok r h
    · exact Hr.ok r h
  · intro r hr
    rcases List.mem_append.1 hr with h | h
    · exact Hp.new r h
    · exact Hr.new r h
  · intro r hr s hss
    obtain ⟨i, hi⟩ := List.mem_iff_getElem?.1 hr
    obtain ⟨k, _, hk⟩ := hs.2 i r hi
    exact (List.pairwise_append.1 H1.apart).2.2 r (List.mem_of_getElem? hk) s hss

/-! ### what is to be shown -/
abbrev QE := Exit → Env → List Res → Prop
def lift (n : Nat) (S : List Nat) (w0 : World) (Q : QE) (e : Exit) (a : Act) (w : World) : Prop := ∃ env L, Models n env a ∧ St S w0 L w ∧ Q e env L
structure VC (P : Program) (n : Nat) (S : List Nat) (w0 : World) (c : Code) (Q : QE) (env : Env) (L : List Res) : Prop where
  run : ∀ a w, Models n env a → St S w0 L w → c.wp P (lift n S w0 Q) a w
structure VL (P : Program) (n : Nat) (S : List Nat) (w0 : World) (ops : Array Oper) (Q : QE) (l : List Oper) (env : Env) (L : List Res) : Prop where
  run : ∀ a w, Models n env a → St S w0 L w → wpList P ops (lift n S w0 Q) l a w

def QThen (K : Env → List Res → Prop) (Q : QE) : QE
  | .normal, env, L => K env L
  | e, env, L => Q e env L
def QBlock (id : Nat) (Q : QE) : QE
  | .exit id', env, L => if id' = id then Q .normal env L else Q (.exit id') env L
  | e, env, L => Q e env L

section
variable {P : Program} {n : Nat} {S : List Nat} {w0 : World} {Q : QE} {env : Env} {L : List Res}

theorem VC.mono {c : Code} {Q' : QE} (h : VC P n S w0 c Q env L) (hq : ∀ e env L, Q e env L → Q' e env L) : VC P n S w0 c Q' env L :=
  ⟨fun a w hm H => wp_mono (h.run a w hm H) fun e a w ⟨env, L, h1, h2, h3⟩ => ⟨env, L, h1, h2, hq _ _ _ h3⟩⟩
theorem VC_seq {x y : Code} (h : VC P n S w0 x (QThen (VC P n S w0 y Q) Q) env L) : VC P n S w0 (.seq x y) Q env L :=
  ⟨fun a w hm H => wp_seq (wp_mono (h.run a w hm H) fun e a w ⟨env, L, h1, h2, h3⟩ => by
    cases e with
    | normal => exact VC.run h3 a w h1 h2
    | _ => exact ⟨env, L, h1, h2, h3⟩)⟩
theorem VC_skip (h : Q .normal env L) : VC P n S w0 .skip Q env L := ⟨fun a w hm H => wp_skip ⟨env, L, hm, H, h⟩⟩
theorem VC_exit {id : Nat} (h : Q (.exit id) env L) : VC P n S w0 (.exit id) Q env L := ⟨fun a w hm H => wp_exit ⟨env, L, hm, H, h⟩⟩
theorem VC_ret (h : Q .ret env L) : VC P n S w0 .ret Q env L := ⟨fun a w hm H => wp_ret ⟨env, L, hm, H, h⟩⟩
theorem VC_label {l : Nat} (h : Q .normal env L) : VC P n S w0 (.label l) Q env L := ⟨fun a w hm H => wp_label ⟨env, L, hm, H, h⟩⟩
theorem VC_block {id : Nat} {c : Code} (h : VC P n S w0 c (QBlock id Q) env L) : VC P n S w0 (.block id c) Q env L :=
  ⟨fun a w hm H => wp_block (wp_mono (h.run a w hm H) fun e a w ⟨env, L, h1, h2, h3⟩ => by
    cases e with
    | exit id' =>
      simp only [Exit.inBlock, QBlock] at h3 ⊢
      split
      · rename_i e; rw [if_pos e] at h3; exact ⟨env, L, h1, h2, h3⟩
      · rename_i e; rw [if_neg e] at h3; exact ⟨env, L, h1, h2, h3⟩
    | _ => exact ⟨env, L, h1, h2, h3⟩)⟩
theorem VC_cond {c : Operand} {x y : Code} {t : Bool} (hc : evalE env c = some (.bool t)) (ht : t = true → VC P n S w0 x Q env L) (hf : t = false → VC P n S w0 y Q env L) : VC P n S w0 (.cond c x y) Q env L :=
  ⟨fun a w hm H => wp_cond_split (hm.eval hc) (fun h => (ht h).run a w hm H) (fun h => (hf h).run a w hm H)⟩
theorem VC_yes {c : Operand} {x y : Code} (hc : evalE env c = some (.bool true)) (ht : VC P n S w0 x Q env L) : VC P n S w0 (.cond c x y) Q env L := VC_cond hc (fun _ => ht) (fun h => by cases h)
theorem VC_no {c : Operand} {x y : Code} (hc : evalE env c = some (.bool false)) (hf : VC P n S w0 y Q env L) : VC P n S w0 (.cond c x y) Q env L := VC_cond hc (fun h => by cases h) (fun _ => hf)
theorem VC_sub {c : Code} {env' : Env} {L' : List Res} (h : VC P n S w0 c Q env' L') (he : Sub env env') (hL : ∀ w, St S w0 L w → St S w0 L' w) : VC P n S w0 c Q env L :=
  ⟨fun a w hm H => h.run a w (hm.sub he) (hL w H)⟩
/-- A cut: where x ends normally, one of a family stands. -/
theorem VC_cut {x y : Code} {ι : Type} (p : ι → Prop) (E : ι → Env) (R : ι → List Res) (hx : VC P n S w0 x (QThen (fun env L => ∃ i, p i ∧ Sub env (E i) ∧ ∀ w, St S w0 L w → St S w0 (R i) w) Q) env L)
    (hy : ∀ i, p i → VC P n S w0 y Q (E i) (R i)) : VC P n S w0 (.seq x y) Q env L :=
  VC_seq (hx.mono fun e env L h => by
    cases e with
    | normal => obtain ⟨i, hp, hs, hL⟩ := h; exact VC_sub (hy i hp) hs hL
    | _ => exact h)
/-- A loop: at its head one of a family stands; each round lowers the measure. -/
theorem VC_loop {c : Code} {ι : Type} (p : ι → Prop) (E : ι → Env) (R : ι → List Res) (μ : ι → Nat) (i0 : ι) (h0 : p i0) (hs0 : Sub env (E i0)) (hL0 : ∀ w, St S w0 L w → St S w0 (R i0) w)
    (round : ∀ i, p i → VC P n S w0 c (QThen (fun env L => ∃ j, p j ∧ μ j < μ i ∧ Sub env (E j) ∧ ∀ w, St S w0 L w → St S w0 (R j) w) Q) (E i) (R i)) : VC P n S w0 (.loop c) Q env L := by
  refine ⟨fun a w hm H => ?_⟩
  have key : ∀ (k : Nat) (i : ι), μ i = k → p i → ∀ a w, Models n (E i) a → St S w0 (R i) w → ∀ (b : Frame) (kk : List Item) (cs : List Frame),
      ∃ e a' w', lift n S w0 Q e a' w' ∧ Arrives P (lone (b.at a (.code c :: .inLoop c :: kk)) cs w) b kk cs e a' w' := by
    intro k
    induction k using Nat.strongRecOn with
    | _ k ih =>
      intro i hk hp a w hm H b kk cs
      obtain ⟨e, a1, w1, ⟨env1, L1, h1, h2, h3⟩, harr⟩ := (round i hp).run a w hm H b (.inLoop c :: kk) cs
      cases e with
      | normal =>
        obtain ⟨j, hpj, hlt, hsj, hLj⟩ := h3
        obtain ⟨e2, a2, w2, hq2, harr2⟩ := ih (μ j) (hk ▸ hlt) j rfl hpj a1 w1 (h1.sub hsj) (hLj w1 h2) b kk cs
        exact ⟨e2, a2, w2, hq2, .of_steps (Steps.trans harr (.one step_inLoop)) harr2⟩
      | exit id => exact ⟨_, a1, w1, ⟨env1, L1, h1, h2, h3⟩, .pass (x := .inLoop c) rfl (fun _ _ => .inl (by simp)) harr⟩
      | goto l => exact ⟨_, a1, w1, ⟨env1, L1, h1, h2, h3⟩, .pass (x := .inLoop c) rfl (fun _ _ => .inl (by simp)) harr⟩
      | ret => exact ⟨_, a1, w1, ⟨env1, L1, h1, h2, h3⟩, .pass (x := .inLoop c) rfl (fun _ _ => .inl (by simp)) harr⟩
      | panic ch => exact ⟨_, a1, w1, ⟨env1, L1, h1, h2, h3⟩, .pass (x := .inLoop c) rfl (fun _ _ => .inl (by simp)) harr⟩
      | outgrown => exact ⟨_, a1, w1, ⟨env1, L1, h1, h2, h3⟩, .pass (x := .inLoop c) rfl (fun _ _ => .inl (by simp)) harr⟩
  intro b kk cs
  obtain ⟨e, a', w', hq, harr⟩ := key _ i0 rfl h0 a w (hm.sub hs0) (hL0 w H) b kk cs
  exact ⟨e, a', w', hq, .of_steps (.one step_loop) harr⟩

/-! ### where a function ends -/
/-- what the results read as -/
def ResE (P : Program) (n : Nat) (S : List Nat) (w0 : World) (fn : Func) (env : Env) (L : List Res) (v : Value) : Prop :=
  ∀ a w, Models n env a → St S w0 L w → (results fn a.tmps).run P w = .ok v w
def fin (P : Program) (n : Nat) (S : List Nat) (w0 : World) (fn : Func) (R : Ending → List Res → Prop) : QE
  | .normal, env, L | .ret, env, L => ∃ v, ResE P n S w0 fn env L v ∧ R (.returned v) L
  | .panic chain, env, L => R (.panicked chain) L
  | _, _, _ => False
theorem enter {f : FuncId} {fn : Func} {c : Code} {w : World} {R : Ending → List Res → Prop} {R' : Ending → World → Prop} (args : List Value) (hf : P.funcs[f]? = some fn) (hb : fn.body = some c) (hn : fn.ntmps = n) (hl : Nat.ble args.length n = true) (H : St S w0 L w)
    (h : VC P n S w0 c (fin P n S w0 fn R) (par 0 args) L) (hR : ∀ e w' L', R e L' → St S w0 L' w' → R' e w') : Calls P f args.toArray w R' := by
  refine calls_of_wp hf hb ?_
  rw [hn]
  refine wp_mono (h.run _ w (Models.enter n args (Nat.le_of_ble_eq_true hl)) H) ?_
  rintro e a w' ⟨env', L', hm, H', hq⟩
  cases e with
  | normal => obtain ⟨v, h1, h2⟩ := hq; exact ⟨hm.defers, v, h1 a w' hm H', hR _ _ _ h2 H'⟩
  | ret => obtain ⟨v, h1, h2⟩ := hq; exact ⟨hm.defers, v, h1 a w' hm H', hR _ _ _ h2 H'⟩
  | panic chain => exact ⟨hm.defers, hR _ _ _ hq H'⟩
  | exit _ => exact hq.elim
  | goto _ => exact hq.elim
  | outgrown => exact hq.elim
theorem res0 {fn : Func} (h : fn.results = #[]) : ResE P n S w0 fn env L (.tuple #[]) := fun a w hm H => results_none h _ _ _
theorem res1 {fn : Func} {t : Tmp} {v : Value} (h : fn.results = #[.tmp t]) (ht : look t env = some v) : ResE P n S w0 fn env L v := fun a w hm H => by
  rw [results_tmp h]
  have := hm.get t v ht
  simp [Array.getD_eq_getD_getElem?, this]
theorem res2 {fn : Func} {t s : Tmp} {v u : Value} (h : fn.results = #[.tmp t, .tmp s]) (ht : look t env = some v) (hs : look s env = some u) : ResE P n S w0 fn env L (.tuple #[v, u]) := fun a w hm H => by
  rw [results_tmp2 h]
  have h1 := hm.get t v ht
  have h2 := hm.get s u hs
  simp [Array.getD_eq_getD_getElem?, h1, h2]
theorem res3 {fn : Func} {t s r : Tmp} {v u x : Value} (h : fn.results = #[.tmp t, .tmp s, .tmp r]) (ht : look t env = some v) (hs : look s env = some u) (hr : look r env = some x) : ResE P n S w0 fn env L (.tuple #[v, u, x]) := fun a w hm H => by
  have h1 := hm.get t v ht
  have h2 := hm.get s u hs
  have h3 := hm.get r x hr
  simp [results, h, Array.getD_eq_getD_getElem?, h1, h2, h3]
end
end Go.PBYtngdppffcdhhlaa
