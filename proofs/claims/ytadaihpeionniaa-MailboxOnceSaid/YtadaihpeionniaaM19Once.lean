/- What was put is there, in its order, till it was let go, and is let go once: the statement MailboxOnce. No condition. -/
import Derived.Test.YtadaihpeionniaaRows
import Derived.Test.YtadaihpeionniaaQ19qc
namespace Go.Proofs.Ytadaihpeionniaa
open Go Go.RowKit Go.PBYtadaihpeionniaa
set_option linter.unusedVariables false
set_option linter.unusedSimpArgs false
set_option maxRecDepth 10000

/-- where the first loop stands -/
structure POn where
  i : Nat
  A : Option Addr
  c : Nat
  ms : List (Mm × Pl)
  G : List Res
structure POn.ok (n : Nat) (x : POn) : Prop where
  le : x.i ≤ n
  eq : mids x.ms = onceM x.i
  g : Bods x.G x.ms
def ONR (b : Nat) (x : POn) : List Res := BoxR b x.A x.c x.ms x.i ++ x.G
/-- where the second loop stands -/
structure TOn where
  i : Nat
  A : Option Addr
  c : Nat
  ms : List (Mm × Pl)
  gone : List Bool
structure TOn.ok (n t many : Nat) (G : List Res) (x : TOn) : Prop where
  le : x.i ≤ t
  on : OnceOk n many (mids x.ms)
  gn : Gone n (mids x.ms) x.gone
  g : Bods G x.ms
def TNR (b bg many : Nat) (G : List Res) (x : TOn) : List Res := .blk bg 4 (boolsC x.gone) :: (BoxR b x.A x.c x.ms many ++ G)
theorem i64s_get {l : List Int} {j : Nat} {x : Int} (h : l[j]? = some x) : (i64s l)[j]? = some (vI x) := by simp [i64s, h]
theorem mvL (X G B : List Res) (r : Res) : ((X ++ G) ++ (r :: B)).Perm ((r :: X) ++ (B ++ G)) := by
  have h1 : ((X ++ G) ++ (r :: B)).Perm ((r :: B) ++ (X ++ G)) := List.perm_append_comm
  refine h1.trans ?_
  show (r :: (B ++ (X ++ G))).Perm (r :: (X ++ (B ++ G)))
  exact List.Perm.cons r (List.perm_append_comm_assoc _ _ _)
theorem mvR (X N : List Res) (r : Res) (G : List Res) : (X ++ (N ++ (r :: G))).Perm (r :: (X ++ (N ++ G))) := by
  rw [← List.append_assoc, ← List.append_assoc]
  exact List.perm_middle
theorem dropO {S : List Nat} {w0 w : World} {a b c d : Res} {B G : List Res} (H : St S w0 (a :: b :: c :: d :: (B ++ G)) w) : St S w0 (b :: c :: d :: G) w :=
  H.sub (List.Sublist.cons _ (List.Sublist.cons_cons _ (List.Sublist.cons_cons _ (List.Sublist.cons_cons _ (List.sublist_append_right B G)))))
set_option maxHeartbeats 16000000 in
theorem monce_all (w : World) (a : Int) (hw : (Lit.int .i64 a).wf = true) (l : List Int) (A : Option Addr) (c : Nat) (hc : l.length ≤ c) (hA : SlAt w A (i64s l)) :
    Calls Try.prog 4 #[vI a, .slice A l.length c] w fun e w' => e = .returned (.bool true) ∧ Kept [] w w' := by
  refine enter (n := 191) (R := fun e L => e = .returned (.bool true)) [vI a, .slice A l.length c] Try.func4 rfl rfl rfl (St.refl w) ?_ (fun e w' L' h H => ⟨h, H.kept⟩)
  refine VC_seq ?_
  refine VC_region ?_
  refine vl_v (q_assign rfl) rfl ?_
  refine vl_nil ?_
  refine (th_n ?_)
  refine VC_seq ?_
  refine VC_region ?_
  refine vl_v (q_callV Try.func7 rfl rfl rfl (fun w1 H1 => awake19_calls w1)) rfl ?_
  refine vl_v (q_assign rfl) rfl ?_
  refine vl_nil ?_
  refine (th_n ?_)
  refine VC_seq ?_
  refine VC_region ?_
  refine l_callG Try.func8 rfl rfl rfl (fun w1 H1 => new_calls w1) rfl ?_
  intro x20
  refine vl_v (q_assign rfl) rfl ?_
  refine vl_nil ?_
  refine (th_n ?_)
  refine VC_seq ?_
  refine VC_seq ?_
  refine VC_region ?_
  refine vl_v (q_move rfl) rfl ?_
  refine vl_v (q_eqPN Try.underlying24 rfl rfl) rfl ?_
  refine vl_v (q_move rfl) rfl ?_
  refine vl_vg rfl (q_move rfl) rfl ?_
  refine vl_vg rfl (q_lss_k (q := 1) Try.underlying3 rfl rfl) rfl ?_
  by_cases hs25 : a < 1
  · skip
    rw [show decide (a < 1) = true from decide_eq_true hs25]
    first | (refine vl_v (q_pickT rfl rfl) rfl ?_) | (refine vl_v (q_pickF rfl rfl) rfl ?_)
    refine vl_v (q_move rfl) rfl ?_
    refine vl_skip rfl rfl ?_
    refine vl_skip rfl rfl ?_
    first | (refine vl_v (q_pickT rfl rfl) rfl ?_) | (refine vl_v (q_pickF rfl rfl) rfl ?_)
    refine vl_v (q_move rfl) rfl ?_
    refine vl_skip rfl rfl ?_
    refine vl_skip rfl rfl ?_
    refine vl_skip rfl rfl ?_
    first | (refine vl_v (q_pickT rfl rfl) rfl ?_) | (refine vl_v (q_pickF rfl rfl) rfl ?_)
    refine vl_nil ?_
    refine (th_n ?_)
    refine VC_yes (rfl) ?_
    refine VC_seq ?_
    refine VC_region ?_
    refine vl_v (q_move rfl) rfl ?_
    refine vl_v (q_move rfl) rfl ?_
    refine vl_vg rfl (q_move rfl) rfl ?_
    refine vl_vg rfl (q_nePN Try.underlying24 rfl rfl) rfl ?_
    first | (refine vl_v (q_pickT rfl rfl) rfl ?_) | (refine vl_v (q_pickF rfl rfl) rfl ?_)
    refine vl_v (q_assign rfl) rfl ?_
    refine vl_nil ?_
    refine (th_n ?_)
    refine VC_ret ?_
    refine (th_r ?_)
    refine ⟨_, res1 rfl rfl, ?_⟩
    exact rfl
  · skip
    rw [show decide (a < 1) = false from decide_eq_false hs25]
    first | (refine vl_v (q_pickT rfl rfl) rfl ?_) | (refine vl_v (q_pickF rfl rfl) rfl ?_)
    refine vl_v (q_move rfl) rfl ?_
    refine vl_vg rfl (q_move rfl) rfl ?_
    refine vl_vg rfl (q_gtr_k (q := 8) Try.underlying3 rfl rfl) rfl ?_
    by_cases hs29 : 8 < a
    · skip
      rw [show decide (8 < a) = true from decide_eq_true hs29]
      first | (refine vl_v (q_pickT rfl rfl) rfl ?_) | (refine vl_v (q_pickF rfl rfl) rfl ?_)
      refine vl_v (q_move rfl) rfl ?_
      refine vl_skip rfl rfl ?_
      refine vl_skip rfl rfl ?_
      refine vl_skip rfl rfl ?_
      first | (refine vl_v (q_pickT rfl rfl) rfl ?_) | (refine vl_v (q_pickF rfl rfl) rfl ?_)
      refine vl_nil ?_
      refine (th_n ?_)
      refine VC_yes (rfl) ?_
      refine VC_seq ?_
      refine VC_region ?_
      refine vl_v (q_move rfl) rfl ?_
      refine vl_v (q_move rfl) rfl ?_
      refine vl_vg rfl (q_move rfl) rfl ?_
      refine vl_vg rfl (q_nePN Try.underlying24 rfl rfl) rfl ?_
      first | (refine vl_v (q_pickT rfl rfl) rfl ?_) | (refine vl_v (q_pickF rfl rfl) rfl ?_)
      refine vl_v (q_assign rfl) rfl ?_
      refine vl_nil ?_
      refine (th_n ?_)
      refine VC_ret ?_
      refine (th_r ?_)
      refine ⟨_, res1 rfl rfl, ?_⟩
      exact rfl
    · skip
      rw [show decide (8 < a) = false from decide_eq_false hs29]
      first | (refine vl_v (q_pickT rfl rfl) rfl ?_) | (refine vl_v (q_pickF rfl rfl) rfl ?_)
      refine vl_v (q_move rfl) rfl ?_
      refine vl_vg rfl (q_move rfl) rfl ?_
      refine vl_vg rfl (q_lenS Try.underlying49 rfl) rfl ?_
      refine vl_vg rfl (q_gtr_n (q := 30) Try.underlying3 rfl rfl) rfl ?_
      by_cases hs34 : 30 < l.length
      · skip
        rw [show decide (30 < l.length) = true from decide_eq_true hs34]
        first | (refine vl_v (q_pickT rfl rfl) rfl ?_) | (refine vl_v (q_pickF rfl rfl) rfl ?_)
        refine vl_nil ?_
        refine (th_n ?_)
        refine VC_yes (rfl) ?_
        refine VC_seq ?_
        refine VC_region ?_
        refine vl_v (q_move rfl) rfl ?_
        refine vl_v (q_move rfl) rfl ?_
        refine vl_vg rfl (q_move rfl) rfl ?_
        refine vl_vg rfl (q_nePN Try.underlying24 rfl rfl) rfl ?_
        first | (refine vl_v (q_pickT rfl rfl) rfl ?_) | (refine vl_v (q_pickF rfl rfl) rfl ?_)
        refine vl_v (q_assign rfl) rfl ?_
        refine vl_nil ?_
        refine (th_n ?_)
        refine VC_ret ?_
        refine (th_r ?_)
        refine ⟨_, res1 rfl rfl, ?_⟩
        exact rfl
      · skip
        rw [show decide (30 < l.length) = false from decide_eq_false hs34]
        first | (refine vl_v (q_pickT rfl rfl) rfl ?_) | (refine vl_v (q_pickF rfl rfl) rfl ?_)
        refine vl_nil ?_
        refine (th_n ?_)
        refine VC_no (rfl) ?_
        refine VC_skip ?_
        refine (th_n ?_)
        refine VC_seq ?_
        refine VC_seq ?_
        refine VC_region ?_
        obtain ⟨n, rfl⟩ := Int.eq_ofNat_of_zero_le (show 0 ≤ a by omega)
        have hn1 : 1 ≤ n := by omega
        have hn8 : n ≤ 8 := by omega
        refine vl_v (q_assign rfl) rfl ?_
        refine vl_nil ?_
        refine (th_n ?_)
        refine VC_block ?_
        refine VC_loop (ι := POn) (fun x => x.ok n) (fun x => [(0, vN n), (1, .slice A l.length c), (5, .bool true), (6, vP x20 0), (7, vN x.i)]) (fun x => ONR x20 x) (fun x => n - x.i) ⟨0, none, 0, [], []⟩ (⟨Nat.zero_le _, rfl, fun w h y hy => absurd hy (by simp)⟩) (Sub.cons (s := 0) rfl (Sub.cons (s := 1) rfl (Sub.cons (s := 5) rfl (Sub.cons (s := 6) rfl (Sub.cons (s := 7) rfl (Sub.nil _)))))) (fun w H => H) ?_
        rintro ⟨i, AS, cS, ms, G⟩ hp
        obtain ⟨hi, heq, hg⟩ := hp
        dsimp only at hi heq hg
        dsimp only
        simp only [ONR, BoxR, List.cons_append, List.nil_append, List.append_nil]
        refine VC_seq ?_
        refine VC_seq ?_
        refine VC_region ?_
        refine vl_v (q_move rfl) rfl ?_
        refine vl_v (q_move rfl) rfl ?_
        first | (refine vl_v (q_lss_n Try.underlying3 rfl rfl) rfl ?_) | (refine vl_v (q_lss_k Try.underlying3 rfl rfl) rfl ?_)
        refine vl_nil ?_
        refine (th_n ?_)
        refine VC_cond rfl (fun ht43 => ?_) (fun ht43 => ?_)
        · skip
          have hil : i < n := of_decide_eq_true ht43
          have hmo : ∀ y ∈ ms, y.1.ok := fun y hy => (onceM_ok i _ (heq ▸ List.mem_map.2 ⟨y, hy, rfl⟩)).2
          have hml : ms.length = i := by rw [← mids_length, heq, onceM_length]
          refine VC_skip ?_
          refine (th_n ?_)
          refine VC_seq ?_
          refine VC_block ?_
          refine VC_seq ?_
          refine VC_region ?_
          have hE : enR (X19f (i % 8) 1 [UInt8.ofNat i]) = true := enR_f (by omega) (by omega) (by simp)
          have hPut := fun (R : List Res) (b0 : Nat) w1 H1 hR => put_gen (S := []) (w0 := w) (w1 := w1) (b := x20) (c := cS) (many := i) (A := AS) (ms := ms) (R := R) (X19f (i % 8) 1 [UInt8.ofNat i]) (s19f i) (some ⟨b0, 0, none⟩) 1 z19_length z19_length ⟨z19_length, z19_length⟩ hmo (by omega) (by show (1 : Nat) ≤ 1000; omega) H1 hR
          rw [heq, put_kept19 hE (by rw [onceM_length]; omega)] at hPut
          refine vl_v (q_move rfl) rfl ?_
          refine vl_v (q_move rfl) rfl ?_
          refine vl_v (q_rem_n (q := 8) rfl rfl (by omega)) rfl ?_
          refine vl_v (q_move rfl) rfl ?_
          refine vl_v (q_conv_nu8 Try.underlying3 Try.underlying5 rfl) rfl ?_
          refine l_litA (cs := bys [_]) Try.underlying34 in5 (by decide) rfl rfl rfl rfl (by first | (with_reducible first | exact bys_one _ | exact u32s_one _ | exact u64s_one _ | exact i64s_one _ | exact n64s_one _ | assumption) | exact bys_one _ | exact u32s_one _ | exact u64s_one _ | exact i64s_one _ | exact one_all rfl | (refine app_one ?_ ?_ <;> first | exact bys_one _ | exact one_all rfl | (simp; done))) rfl rfl ?_
          intro b52
          refine vl_v (q_build (c' := envOf (X19f (i % 8) 1 [UInt8.ofNat i]) (some ⟨b52, 0, none⟩, 1)) rfl (by kernel_rfl)) rfl ?_
          refine vl_v (q_move rfl) rfl ?_
          refine vl_v (q_build (c' := stC (s19f i)) rfl (by kernel_rfl)) rfl ?_
          refine l_call (F := fun v L' => ∃ A' c' ms' N, v = .tuple #[vN (i + 1), vN 0] ∧ mids ms' = onceM (i + 1) ∧ Fresh N ms ms' ∧ L' = [.blk x20 57 [.slice A' ms'.length c', vN (i + 1)], .row 52 138 (.slice A' ms'.length c') ms'.length (mailsC ms')] ++ (N ++ G)) Try.func9 rfl rfl rfl (fun w1 H1 => ?_) rfl ?_
          · have H2 := St.pickR (M := BoxR x20 AS cS ms i ++ [.row 5 1 (.slice (some ⟨b52, 0, none⟩) 1 1) 1 (bys [UInt8.ofNat i])]) (R := G) 3 H1 (ks := [1, 2, 0]) (by decide) (by decide) rfl rfl
            have H3 : St [] w (BoxR x20 AS cS ms i ++ (.row 5 1 (.slice (some ⟨b52, 0, none⟩) 1 1) 1 (bys [UInt8.ofNat i]) :: G)) w1 := H2
            refine (hPut (.row 5 1 (.slice (some ⟨b52, 0, none⟩) 1 1) 1 (bys [UInt8.ofNat i]) :: G) b52 w1 H3 (fun L => Reads.rest (.row 5 1 (.slice (some ⟨b52, 0, none⟩) 1 1) 1 (bys [UInt8.ofNat i])) List.mem_cons_self (fun w' h => Row.sl h) H3)).mono fun e w' h => ?_
            obtain ⟨A', c', ms', N, h1, h2, h3, h4⟩ := h
            exact ⟨_, _, h1, ⟨A', c', ms', N, rfl, by rw [onceM_succ]; exact h2, h3, rfl⟩, (h4.perm (mvR _ _ _ _)).sub (List.sublist_cons_self _ _)⟩
          rintro v L' ⟨A1, c1, ms1, N1, rfl, hm1, hF1, rfl⟩
          simp only [List.cons_append, List.nil_append]
          refine vl_v (q_move rfl) rfl ?_
          refine vl_v (q_ext rfl rfl) rfl ?_
          refine vl_v (q_ext rfl rfl) rfl ?_
          refine vl_v (q_assign rfl) rfl ?_
          refine vl_v (q_assign rfl) rfl ?_
          refine vl_nil ?_
          refine (th_n ?_)
          refine VC_seq ?_
          refine VC_region ?_
          refine vl_v (q_move rfl) rfl ?_
          refine vl_v (q_as (v := .bool false) (q_neq_k Try.underlying41 rfl rfl) (by simp)) rfl ?_
          refine vl_v (q_move rfl) rfl ?_
          refine vl_vg rfl (q_move rfl) rfl ?_
          refine vl_vg rfl (q_move rfl) rfl ?_
          first | (refine vl_vg rfl (q_add_n (q := 1) rfl rfl (by omega)) rfl ?_) | (refine vl_vg rfl (q_add_i rfl rfl (by omega) (by omega)) rfl ?_)
          refine vl_vg rfl (q_as (v := .bool false) (q_neq_n Try.underlying3 rfl rfl) (by rw [decide_eq_true rfl]; rfl)) rfl ?_
          first | (refine vl_v (q_pickT rfl rfl) rfl ?_) | (refine vl_v (q_pickF rfl rfl) rfl ?_)
          refine vl_nil ?_
          refine (th_n ?_)
          refine VC_no (rfl) ?_
          refine VC_skip ?_
          refine (bl_n (th_n ?_))
          refine VC_region ?_
          refine vl_v (q_move rfl) rfl ?_
          first | (refine vl_v (q_add_n (q := 1) rfl rfl (by omega)) rfl ?_) | (refine vl_v (q_add_i rfl rfl (by omega) (by omega)) rfl ?_)
          refine vl_v (q_assign rfl) rfl ?_
          refine vl_nil ?_
          refine (th_n ?_)
          refine ⟨⟨i + 1, A1, c1, ms1, N1 ++ G⟩, ⟨hil, hm1, hg.new hF1⟩, by show n - (i + 1) < n - i; omega, (Sub.cons (s := 0) rfl (Sub.cons (s := 1) rfl (Sub.cons (s := 5) rfl (Sub.cons (s := 6) rfl (Sub.cons (s := 7) rfl (Sub.nil _)))))), fun w H => H⟩
        · skip
          obtain rfl : i = n := by have := of_decide_eq_false ht43; omega
          have hmo : ∀ y ∈ ms, y.1.ok := fun y hy => (onceM_ok i _ (heq ▸ List.mem_map.2 ⟨y, hy, rfl⟩)).2
          have hml : ms.length = i := by rw [← mids_length, heq, onceM_length]
          refine VC_exit ?_
          refine (th_x (th_x (bl_xs (th_n ?_))))
          refine VC_seq ?_
          refine VC_region ?_
          obtain ⟨M, many, hpm, hoo, hall⟩ := once_last hn8
          have hPut := fun (R : List Res) w1 H1 => put_calls (w := w) (w1 := w1) (b := x20) (c := cS) (many := i) (A := AS) (ms := ms) (R := R) (X19f 0 0 []) (s19f 0) none 0 z19_length z19_length ⟨z19_length, z19_length⟩ hmo (by omega) (Nat.zero_le _) (SlAt.nil w none) H1
          rw [heq, hpm] at hPut
          refine vl_v (q_move rfl) rfl ?_
          refine vl_v (q_build (c' := envOf (X19f 0 0 []) (none, 0)) rfl (by kernel_rfl)) rfl ?_
          refine vl_v (q_build (c' := stC (s19f 0)) rfl (by kernel_rfl)) rfl ?_
          refine l_call (F := fun v L' => ∃ A' c' ms' N, v = .tuple #[vN (if i = 8 then 0 else i + 1), vN (if i = 8 then 8 else 0)] ∧ mids ms' = M ∧ Fresh N ms ms' ∧ L' = [.blk x20 57 [.slice A' ms'.length c', vN many], .row 52 138 (.slice A' ms'.length c') ms'.length (mailsC ms')] ++ (N ++ G)) Try.func9 rfl rfl rfl (fun w1 H1 => (hPut G w1 H1).mono fun e w' h => ?_) rfl ?_
          · obtain ⟨A', c', ms', N, h1, h2, h3, h4⟩ := h
            exact ⟨_, _, h1, ⟨A', c', ms', N, rfl, h2, h3, rfl⟩, h4⟩
          rintro v L' ⟨A1, c1, ms1, N1, rfl, hm1, hF1, rfl⟩
          simp only [List.cons_append, List.nil_append]
          refine vl_v (q_move rfl) rfl ?_
          refine vl_v (q_ext rfl rfl) rfl ?_
          refine vl_v (q_ext rfl rfl) rfl ?_
          refine vl_v (q_assign rfl) rfl ?_
          refine vl_v (q_assign rfl) rfl ?_
          refine vl_nil ?_
          refine (th_n ?_)
          refine VC_seq ?_
          refine VC_seq ?_
          refine VC_region ?_
          refine vl_v (q_move rfl) rfl ?_
          refine vl_v (q_as (v := .bool (decide (i = 8))) (q_eql_n (q := 8) Try.underlying41 rfl rfl) (by by_cases h : i = 8 <;> simp [h])) rfl ?_
          refine vl_v (q_move rfl) rfl ?_
          refine vl_v (q_eql_n (q := 8) Try.underlying3 rfl rfl) rfl ?_
          refine vl_v (q_as (v := .bool false) (q_neBo19 Try.underlying4 rfl rfl) (by simp)) rfl ?_
          refine vl_nil ?_
          refine (th_n ?_)
          refine VC_no (rfl) ?_
          refine VC_skip ?_
          refine (th_n ?_)
          refine VC_seq ?_
          refine VC_region ?_
          have hg1 : Bods (N1 ++ G) ms1 := hg.new hF1
          obtain ⟨G1, hG1⟩ : ∃ x, x = N1 ++ G := ⟨_, rfl⟩
          rw [← hG1] at hg1 ⊢
          have hok1 : ∀ y ∈ ms1, y.1.X.body.length ≤ 1000 ∧ y.1.ok := fun y hy => hoo.ok _ (hm1 ▸ List.mem_map.2 ⟨y, hy, rfl⟩)
          have h81 : ms1.length ≤ 8 := by rw [← mids_length, hm1]; exact hoo.l8
          refine vl_v (q_move rfl) rfl ?_
          first | (refine vl_v (q_add_n (q := 2) rfl rfl (by omega)) rfl ?_) | (refine vl_v (q_add_i rfl rfl (by omega) (by omega)) rfl ?_)
          refine l_make Try.underlying50 in4 rfl rfl rfl (by omega) (by unfold maxLen; omega) rfl ?_
          intro b81
          refine vl_v (q_assign rfl) rfl ?_
          rw [boolsC_rep]
          refine vl_nil ?_
          refine (th_n ?_)
          refine VC_seq ?_
          refine VC_region ?_
          refine vl_v (q_move rfl) rfl ?_
          refine l_call (F := fun v L' => ∃ Az cz, v = .slice Az ms1.length cz ∧ L' = .blk b81 4 (boolsC (List.replicate (i + 2) false)) :: .blk x20 57 [.slice A1 ms1.length c1, vN many] :: .row 52 138 (.slice A1 ms1.length c1) ms1.length (mailsC ms1) :: G1) Try.func14 rfl rfl rfl (fun w1 H1 => (list_calls w1 x20 c1 many A1 ms1 (fun y hy => (hok1 y hy).2) (fun y hy => (hok1 y hy).1) h81 (Reads.blk 1 rfl w1 H1) (Reads.row 2 rfl w1 H1) (hg1 w1 (fun g hg => H1.ok g (List.mem_append_right [_, _, _] hg)))).mono fun e w' h => ?_) rfl ?_
          · obtain ⟨z9, h1, h2, h3⟩ := h
            exact ⟨_, _, h1, ⟨_, _, rfl, rfl⟩, (H1.join h3).sub (List.sublist_append_left _ _)⟩
          rintro v L' ⟨AL, cL, rfl, rfl⟩
          refine vl_v (q_lenS Try.underlying46 rfl) rfl ?_
          refine vl_v (q_assign rfl) rfl ?_
          refine vl_nil ?_
          refine (th_n ?_)
          refine VC_seq ?_
          refine VC_seq ?_
          refine VC_region ?_
          refine vl_v (q_assign rfl) rfl ?_
          refine vl_nil ?_
          refine (th_n ?_)
          refine VC_block ?_
          refine VC_loop (ι := TOn) (fun x => x.ok i l.length many G1) (fun x => [(0, vN i), (1, .slice A l.length c), (5, .bool true), (6, vP x20 0), (12, .slice (some ⟨b81, 0, none⟩) (i + 2) (i + 2)), (13, vN x.ms.length), (14, vN x.i)]) (fun x => TNR x20 b81 many G1 x) (fun x => l.length - x.i) ⟨0, A1, c1, ms1, List.replicate (i + 2) false⟩ (⟨Nat.zero_le _, by rw [hm1]; exact hoo, by rw [hm1]; exact gone_start hall, hg1⟩) (Sub.cons (s := 0) rfl (Sub.cons (s := 1) rfl (Sub.cons (s := 5) rfl (Sub.cons (s := 6) rfl (Sub.cons (s := 12) rfl (Sub.cons (s := 13) rfl (Sub.cons (s := 14) rfl (Sub.nil _)))))))) (fun w H => H) ?_
          rintro ⟨ix, AS, cS, ms, gone⟩ hp
          obtain ⟨hi, hoo, hgn, hg⟩ := hp
          dsimp only at hi hoo hgn hg
          dsimp only
          simp only [TNR, BoxR, List.cons_append, List.nil_append, List.append_nil]
          refine VC_seq ?_
          refine VC_seq ?_
          refine VC_region ?_
          refine vl_v (q_move rfl) rfl ?_
          refine vl_v (q_move rfl) rfl ?_
          refine vl_v (q_lenS Try.underlying49 rfl) rfl ?_
          first | (refine vl_v (q_lss_n Try.underlying3 rfl rfl) rfl ?_) | (refine vl_v (q_lss_k Try.underlying3 rfl rfl) rfl ?_)
          refine vl_nil ?_
          refine (th_n ?_)
          refine VC_cond rfl (fun ht88 => ?_) (fun ht88 => ?_)
          · skip
            have hil : ix < l.length := of_decide_eq_true ht88
            obtain ⟨o, ho⟩ : ∃ o, l[ix]? = some o := ⟨_, List.getElem?_eq_getElem hil⟩
            have hmo : ∀ y ∈ ms, y.1.ok := fun y hy => (hoo.ok _ (List.mem_map.2 ⟨y, hy, rfl⟩)).2
            have hm8 : ms.length ≤ 8 := by rw [← mids_length]; exact hoo.l8
            refine VC_skip ?_
            refine (th_n ?_)
            refine VC_seq ?_
            refine VC_block ?_
            refine VC_seq ?_
            refine VC_seq ?_
            refine VC_region ?_
            refine vl_v (q_move rfl) rfl ?_
            refine vl_v (q_move rfl) rfl ?_
            refine vl_v (q_idxRd (m := ix) Try.underlying49 sz3 rfl rfl hil (Reads.old hA) (by rw [i64s_length]; exact hil)) rfl ?_
            refine vl_v (q_loadRd Try.underlying3 rfl rfl (Reads.old hA) (i64s_get ho)) rfl ?_
            refine vl_v (q_lss_k (q := 0) Try.underlying3 rfl rfl) rfl ?_
            refine vl_nil ?_
            refine (th_n ?_)
            refine VC_cond rfl (fun ht95 => ?_) (fun ht95 => ?_)
            · skip
              let z : TOn := ⟨ix + 1, AS, cS, ms, gone⟩
              have hz : z.ok i l.length many G1 := ⟨hil, hoo, hgn, hg⟩
              refine VC_exit ?_
              refine (th_x (bl_xs (th_n ?_)))
              refine VC_region ?_
              refine vl_v (q_move rfl) rfl ?_
              first | (refine vl_v (q_add_n (q := 1) rfl rfl (by omega)) rfl ?_) | (refine vl_v (q_add_i rfl rfl (by omega) (by omega)) rfl ?_)
              refine vl_v (q_assign rfl) rfl ?_
              refine vl_nil ?_
              refine (th_n ?_)
              refine ⟨z, hz, by show l.length - (ix + 1) < l.length - ix; omega, (Sub.cons (s := 0) rfl (Sub.cons (s := 1) rfl (Sub.cons (s := 5) rfl (Sub.cons (s := 6) rfl (Sub.cons (s := 12) rfl (Sub.cons (s := 13) rfl (Sub.cons (s := 14) rfl (Sub.nil _)))))))), fun w H => by first | exact H | exact dropO H⟩
            · skip
              have hon := of_decide_eq_false ht95
              obtain ⟨on, rfl⟩ := Int.eq_ofNat_of_zero_le (show 0 ≤ o by omega)
              refine VC_skip ?_
              refine (th_n ?_)
              refine VC_seq ?_
              refine VC_region ?_
              refine vl_v (q_move rfl) rfl ?_
              refine vl_v (q_move rfl) rfl ?_
              refine vl_v (q_idxRd (m := ix) Try.underlying49 sz3 rfl rfl hil (Reads.old hA) (by rw [i64s_length]; exact hil)) rfl ?_
              refine vl_v (q_loadRd Try.underlying3 rfl rfl (Reads.old hA) (i64s_get ho)) rfl ?_
              refine vl_v (q_move rfl) rfl ?_
              refine vl_v (q_rem_n rfl rfl (by omega)) rfl ?_
              obtain ⟨d0, hd0⟩ : ∃ z, z = on % i := ⟨_, rfl⟩
              have hd0l : d0 < i := hd0 ▸ Nat.mod_lt on (by omega)
              rw [← hd0]
              first | (refine vl_v (q_add_n (q := 1) rfl rfl (by omega)) rfl ?_) | (refine vl_v (q_add_i rfl rfl (by omega) (by omega)) rfl ?_)
              refine vl_v (q_assign rfl) rfl ?_
              obtain ⟨d, hd⟩ : ∃ z, z = d0 + 1 := ⟨_, rfl⟩
              have hd1 : 1 ≤ d := by omega
              have hd2 : d ≤ i := by omega
              rw [← hd]
              refine vl_nil ?_
              refine (th_n ?_)
              refine VC_seq ?_
              refine VC_region ?_
              have hdw : (Lit.int .i64 (d : Int)).wf = true := wf_small d (by omega)
              have hAck := fun (R : List Res) w1 H1 => ack_calls (S := []) (w0 := w) (w1 := w1) (b := x20) (c := cS) (many := many) (A := AS) (ms := ms) (R := R) (d : Int) hdw hmo hm8 H1
              obtain ⟨u, hu⟩ : ∃ u, ackM (mids ms) many (d : Int) = u := ⟨_, rfl⟩
              rw [hu] at hAck
              refine vl_v (q_move rfl) rfl ?_
              refine vl_v (q_move rfl) rfl ?_
              refine l_call (F := fun v L' => ∃ A' c' ms', v = vN u.1 ∧ mids ms' = u.2 ∧ (∀ y ∈ ms', y ∈ ms) ∧ L' = .blk b81 4 (boolsC gone) :: .blk x20 57 [.slice A' ms'.length c', vN many] :: .row 52 138 (.slice A' ms'.length c') ms'.length (mailsC ms') :: G1) Try.func11 rfl rfl rfl (fun w1 H1 => (hAck (.blk b81 4 (boolsC gone) :: G1) w1 (St.pickR (M := BoxR x20 AS cS ms many ++ [.blk b81 4 (boolsC gone)]) (R := G1) 3 H1 (ks := [1, 2, 0]) (by decide) (by decide) rfl rfl)).mono fun e w' h => ?_) rfl ?_
              · obtain ⟨A', c', ms', h1, h2, h3, h4⟩ := h
                exact ⟨_, _, h1, ⟨A', c', ms', rfl, h2, h3, rfl⟩, St.pickR (R := G1) 3 h4 (ks := [2, 0, 1]) (by decide) (by decide) rfl rfl⟩
              rintro v L' ⟨A2, c2, ms2, rfl, hm2, hsub, rfl⟩
              refine vl_v (q_assign rfl) rfl ?_
              have hgl : d < (boolsC gone).length := by rw [boolsC_length, hgn.len]; omega
              refine vl_nil ?_
              refine (th_n ?_)
              refine VC_seq ?_
              refine VC_seq ?_
              by_cases hr22 : (d : Int) ∈ (mids ms).map Mm.id
              · skip
                refine VC_region ?_
                have huk : u = (0, (mids ms).eraseP fun m => decide (m.id = (d : Int))) := hu ▸ ack_kept19 hoo.ups hr22
                subst huk
                dsimp only at hm2 ⊢
                have hga : (boolsC gone)[d]? = some (.bool false) := boolsC_at (by rw [hgn.at_ d hd1 hd2, decide_eq_true hr22]; rfl)
                have hml2 : ms.length - 1 = ms2.length := by
                  obtain ⟨m9, hm9, he9⟩ := List.mem_map.1 hr22
                  rw [← mids_length ms2, hm2, List.length_eraseP_of_mem hm9 (by simpa using he9), mids_length]
                have hml1 : 1 ≤ ms.length := by
                  rw [← mids_length]
                  exact List.length_pos_of_mem (List.mem_map.1 hr22).choose_spec.1
                have hz0 : (⟨ix + 1, A2, c2, ms2, gone.set d true⟩ : TOn).ok i l.length many G1 := ⟨hil, by show OnceOk i many (mids ms2); rw [hm2]; exact hoo.erase _, by show Gone i (mids ms2) _; rw [hm2]; exact hgn.step hd1 hd2 (fun x => erase_ids hoo.ups.up), hg.less hsub⟩
                refine vl_v (q_move rfl) rfl ?_
                refine vl_v (q_as (v := .bool true) (q_eql_k Try.underlying41 rfl rfl) (by simp)) rfl ?_
                refine vl_v (q_move rfl) rfl ?_
                refine vl_v (q_move rfl) rfl ?_
                refine vl_v (q_idxS0 (m := d) Try.underlying50 sz4 rfl rfl (by omega) (by rw [Nat.mul_one, Nat.zero_add])) rfl ?_
                refine vl_v (q_load 0 Try.underlying4 rfl rfl rfl hga) rfl ?_
                refine vl_v (q_as (v := .bool false) (q_eqBo Try.underlying4 rfl rfl) (by rfl)) rfl ?_
                refine vl_v (q_move rfl) rfl ?_
                refine vl_vg rfl (q_move rfl) rfl ?_
                refine vl_vg rfl (q_as (v := .bool false) (q_neq_k Try.underlying41 rfl rfl) (by simp)) rfl ?_
                refine vl_vg rfl (q_move rfl) rfl ?_
                refine vl_skip rfl rfl ?_
                refine vl_skip rfl rfl ?_
                first | (refine vl_vg rfl (q_pickT rfl rfl) rfl ?_) | (refine vl_vg rfl (q_pickF rfl rfl) rfl ?_)
                first | (refine vl_v (q_pickT rfl rfl) rfl ?_) | (refine vl_v (q_pickF rfl rfl) rfl ?_)
                refine vl_nil ?_
                refine (th_n ?_)
                refine VC_no (rfl) ?_
                refine VC_skip ?_
                refine (th_n ?_)
                refine VC_seq ?_
                refine VC_seq ?_
                refine VC_region ?_
                refine vl_v (q_move rfl) rfl ?_
                refine vl_v (q_as (v := .bool true) (q_eql_k Try.underlying41 rfl rfl) (by simp)) rfl ?_
                refine vl_nil ?_
                refine (th_n ?_)
                refine VC_yes (rfl) ?_
                refine VC_region ?_
                refine vl_v (q_move rfl) rfl ?_
                first | (refine vl_v (q_sub_n (q := 1) rfl rfl (by omega) (by omega)) rfl ?_) | (refine vl_v (q_sub_i rfl rfl (by omega) (by omega)) rfl ?_)
                refine vl_v (q_assign rfl) rfl ?_
                refine vl_nil ?_
                refine (th_n ?_)
                refine VC_seq ?_
                refine VC_region ?_
                rw [hml2]
                clear hAck
                refine vl_v (q_move rfl) rfl ?_
                refine vl_v (q_move rfl) rfl ?_
                refine vl_v (q_idxS0 (m := d) Try.underlying50 sz4 rfl rfl (by omega) (by rw [Nat.mul_one, Nat.zero_add])) rfl ?_
                refine l_store1 0 rfl rfl rfl sz4 rfl hgl ?_
                simp only [List.set_cons_zero]
                rw [boolsC_set]
                refine vl_nil ?_
                refine (th_n ?_)
                refine VC_seq ?_
                refine VC_region ?_
                obtain ⟨_, hoo2, hgn2, hg2⟩ := (fun h => h : ∀ {p : Prop}, p → p) hz0
                dsimp only at hoo2 hgn2 hg2
                have hok2 : ∀ y ∈ ms2, y.1.X.body.length ≤ 1000 ∧ y.1.ok := fun y hy => hoo2.ok _ (List.mem_map.2 ⟨y, hy, rfl⟩)
                have h82 : ms2.length ≤ 8 := by rw [← mids_length]; exact hoo2.l8
                refine vl_v (q_move rfl) rfl ?_
                refine l_call (F := fun v L' => ∃ Az cz zs, v = .slice Az ms2.length cz ∧ mids zs = mids ms2 ∧ L' = [.row 52 138 (.slice Az ms2.length cz) ms2.length (mailsC zs), .blk b81 4 (boolsC (gone.set d true)), .blk x20 57 [.slice A2 ms2.length c2, vN many], .row 52 138 (.slice A2 ms2.length c2) ms2.length (mailsC ms2)] ++ (bods zs ++ G1)) Try.func14 rfl rfl rfl (fun w1 H1 => (list_calls w1 x20 c2 many A2 ms2 (fun y hy => (hok2 y hy).2) (fun y hy => (hok2 y hy).1) h82 (Reads.blk 1 rfl w1 H1) (Reads.row 2 rfl w1 H1) (hg2 w1 (fun g hg => H1.ok g (List.mem_append_right [_, _, _] hg)))).mono fun e w' h => ?_) rfl ?_
                · obtain ⟨z9, h1, h2, h3⟩ := h
                  exact ⟨_, _, h1, ⟨_, _, _, rfl, h2, rfl⟩, (H1.join h3).perm (mvL [_, _, _] _ _ _)⟩
                rintro v L' ⟨AM, cM, zs, rfl, hzs, rfl⟩
                simp only [List.cons_append, List.nil_append]
                have hzl : ms2.length = zs.length := by rw [← mids_length ms2, ← hzs, mids_length]
                have hzm : ∀ y ∈ zs, y.1 ∈ mids ms2 := fun y hy => by rw [← hzs]; exact List.mem_map.2 ⟨y, hy, rfl⟩
                have hzok : ∀ y ∈ zs, y.1.ok := fun y hy => (hoo2.ok _ (hzm y hy)).2
                have hzml := mailsC_length hzok
                have hup : (zs.map fun y => y.1.id).Pairwise (· < ·) := by have := hoo2.ups.up; rw [← hzs, mids, List.map_map] at this; exact this
                have hrg : ∀ y ∈ zs, 1 ≤ y.1.id ∧ y.1.id ≤ (many : Int) := fun y hy => hoo2.ups.rng _ (hzm y hy)
                refine vl_v (q_assign rfl) rfl ?_
                refine vl_nil ?_
                refine (th_n ?_)
                refine VC_seq ?_
                refine VC_seq ?_
                refine VC_region ?_
                refine vl_v (q_move rfl) rfl ?_
                refine vl_v (q_lenS Try.underlying46 rfl) rfl ?_
                refine vl_v (q_move rfl) rfl ?_
                refine vl_v (q_as (v := .bool false) (q_neq_n Try.underlying3 rfl rfl) (by rw [decide_eq_true rfl]; rfl)) rfl ?_
                refine vl_nil ?_
                refine (th_n ?_)
                refine VC_no (rfl) ?_
                refine VC_skip ?_
                refine (th_n ?_)
                refine VC_seq ?_
                refine VC_region ?_
                refine vl_v (q_assign rfl) rfl ?_
                refine vl_nil ?_
                refine (th_n ?_)
                refine VC_block ?_
                refine VC_loop (ι := Nat) (fun kx => kx ≤ ms2.length) (fun kx => [(0, vN i), (1, .slice A l.length c), (5, .bool true), (6, vP x20 0), (12, .slice (some ⟨b81, 0, none⟩) (i + 2) (i + 2)), (13, vN ms2.length), (14, vN ix), (17, .slice AM ms2.length cM), (18, vN kx)]) (fun kx => .row 52 138 (.slice AM ms2.length cM) ms2.length (mailsC zs) :: .blk b81 4 (boolsC (gone.set d true)) :: .blk x20 57 [.slice A2 ms2.length c2, vN many] :: .row 52 138 (.slice A2 ms2.length c2) ms2.length (mailsC ms2) :: (bods zs ++ G1)) (fun kx => ms2.length - kx) 0 (by omega) (Sub.cons (s := 0) rfl (Sub.cons (s := 1) rfl (Sub.cons (s := 5) rfl (Sub.cons (s := 6) rfl (Sub.cons (s := 12) rfl (Sub.cons (s := 13) rfl (Sub.cons (s := 14) rfl (Sub.cons (s := 17) rfl (Sub.cons (s := 18) rfl (Sub.nil _)))))))))) (fun w H => H) ?_
                rintro kx hp
                refine VC_seq ?_
                refine VC_seq ?_
                refine VC_region ?_
                refine vl_v (q_move rfl) rfl ?_
                refine vl_v (q_move rfl) rfl ?_
                refine vl_v (q_lenS Try.underlying46 rfl) rfl ?_
                first | (refine vl_v (q_lss_n Try.underlying3 rfl rfl) rfl ?_) | (refine vl_v (q_lss_k Try.underlying3 rfl rfl) rfl ?_)
                refine vl_nil ?_
                refine (th_n ?_)
                refine VC_cond rfl (fun ht137 => ?_) (fun ht137 => ?_)
                · skip
                  have hkl := of_decide_eq_true ht137
                  obtain ⟨y, hy⟩ : ∃ y, zs[kx]? = some y := ⟨_, List.getElem?_eq_getElem (by omega)⟩
                  have hym := List.mem_of_getElem? hy
                  have hyr := hrg y hym
                  obtain ⟨e, he⟩ := Int.eq_ofNat_of_zero_le (show 0 ≤ y.1.id by omega)
                  have hpt := mailsC_part hzok hy
                  have hp0 : (mailsC zs)[kx * 138 + 0]? = some (vN e) := by rw [mget_in hpt mailV_id (by omega), he]
                  have hp73 : (mailsC zs)[kx * 138 + 73]? = some (vI y.1.s.ti) := mget_in hpt (mailV_time (hzok y hym)) (by omega)
                  refine VC_skip ?_
                  refine (th_n ?_)
                  refine VC_seq ?_
                  refine VC_block ?_
                  refine VC_seq ?_
                  by_cases hq33 : 0 < kx
                  · skip
                    obtain ⟨y', hy'⟩ : ∃ y, zs[kx - 1]? = some y := ⟨_, List.getElem?_eq_getElem (by omega)⟩
                    have hyr' := hrg y' (List.mem_of_getElem? hy')
                    obtain ⟨e', he'⟩ := Int.eq_ofNat_of_zero_le (show 0 ≤ y'.1.id by omega)
                    have hp0' : (mailsC zs)[(kx - 1) * 138 + 0]? = some (vN e') := by rw [mget_in (mailsC_part hzok hy') mailV_id (by omega), he']
                    have hlt : e' < e := by
                      have h1 := (List.pairwise_iff_getElem.1 hup) (kx - 1) kx (by rw [List.length_map]; omega) (by rw [List.length_map]; omega) (by omega)
                      rw [List.getElem_map, List.getElem_map] at h1
                      rw [(List.getElem?_eq_some_iff.1 hy).2, (List.getElem?_eq_some_iff.1 hy').2, he, he'] at h1
                      omega
                    by_cases hv33 : e ≤ i
                    · skip
                      obtain ⟨y', hy'⟩ : ∃ y, zs[kx - 1]? = some y := ⟨_, List.getElem?_eq_getElem (by omega)⟩
                      have hyr' := hrg y' (List.mem_of_getElem? hy')
                      obtain ⟨e', he'⟩ := Int.eq_ofNat_of_zero_le (show 0 ≤ y'.1.id by omega)
                      have hp0' : (mailsC zs)[(kx - 1) * 138 + 0]? = some (vN e') := by rw [mget_in (mailsC_part hzok hy') mailV_id (by omega), he']
                      have hlt : e' < e := by
                        have h1 := (List.pairwise_iff_getElem.1 hup) (kx - 1) kx (by rw [List.length_map]; omega) (by rw [List.length_map]; omega) (by omega)
                        rw [List.getElem_map, List.getElem_map] at h1
                        rw [(List.getElem?_eq_some_iff.1 hy).2, (List.getElem?_eq_some_iff.1 hy').2, he, he'] at h1
                        omega
                      have hei : (boolsC (gone.set d true))[e]? = some (.bool false) := boolsC_at (by rw [hgn2.at_ e (by omega) hv33, decide_eq_true (List.mem_map.2 ⟨y.1, hzm y hym, he⟩)]; rfl)
                      have hti : y.1.s.ti = ((e - 1 : Nat) : Int) := by have := hoo2.ti _ (hzm y hym) (by rw [he]; omega); omega
                      rw [hti] at hp73
                      have hgm : 1 ≤ e ∧ e ≤ i := by omega
                      refine VC_drawV 47 [[], [], [0, 1], [2], [3], [], [4, 5], [6], [7], [7], [7], [9, 10, 7], [11, 7], [12, 7], [8, 13, 7], [14, 7], [15, 7], [16], [16], [17, 18, 16], [19, 16], [20, 16], [21, 16], [16], [16], [23, 24, 16], [25, 16], [26, 16], [27, 16], [22, 28, 16], [16, 29, 7], [7, 30], [31, 16], [32], [33, 32], [34, 32], [35], [35], [37, 35], [36, 38, 35], [39, 35], [40, 35], [35], [35], [42, 43, 35], [44, 35], [45, 35], [41, 46, 35], [35, 47, 32], [32, 48]] [[], [], [0, 1], [0, 1, 2], [0, 1, 2, 3], [], [0, 1, 2, 3, 4, 5], [0, 1, 2, 3, 4, 5, 6], [0, 1, 2, 3, 4, 5, 6, 7], [0, 1, 2, 3, 4, 5, 6, 7], [0, 1, 2, 3, 4, 5, 6, 7], [0, 1, 2, 3, 4, 5, 6, 7, 9, 10], [0, 1, 2, 3, 4, 5, 6, 7, 9, 10, 11], [0, 1, 2, 3, 4, 5, 6, 7, 9, 10, 11, 12], [0, 1, 2, 3, 4, 5, 6, 7, 8, 9, 10, 11, 12, 13], [0, 1, 2, 3, 4, 5, 6, 7, 8, 9, 10, 11, 12, 13, 14], [0, 1, 2, 3, 4, 5, 6, 7, 8, 9, 10, 11, 12, 13, 14, 15], [0, 1, 2, 3, 4, 5, 6, 7, 8, 9, 10, 11, 12, 13, 14, 15, 16], [0, 1, 2, 3, 4, 5, 6, 7, 8, 9, 10, 11, 12, 13, 14, 15, 16], [0, 1, 2, 3, 4, 5, 6, 7, 8, 9, 10, 11, 12, 13, 14, 15, 16, 17, 18], [0, 1, 2, 3, 4, 5, 6, 7, 8, 9, 10, 11, 12, 13, 14, 15, 16, 17, 18, 19], [0, 1, 2, 3, 4, 5, 6, 7, 8, 9, 10, 11, 12, 13, 14, 15, 16, 17, 18, 19, 20], [0, 1, 2, 3, 4, 5, 6, 7, 8, 9, 10, 11, 12, 13, 14, 15, 16, 17, 18, 19, 20, 21], [0, 1, 2, 3, 4, 5, 6, 7, 8, 9, 10, 11, 12, 13, 14, 15, 16], [0, 1, 2, 3, 4, 5, 6, 7, 8, 9, 10, 11, 12, 13, 14, 15, 16], [0, 1, 2, 3, 4, 5, 6, 7, 8, 9, 10, 11, 12, 13, 14, 15, 16, 23, 24], [0, 1, 2, 3, 4, 5, 6, 7, 8, 9, 10, 11, 12, 13, 14, 15, 16, 23, 24, 25], [0, 1, 2, 3, 4, 5, 6, 7, 8, 9, 10, 11, 12, 13, 14, 15, 16, 23, 24, 25, 26], [0, 1, 2, 3, 4, 5, 6, 7, 8, 9, 10, 11, 12, 13, 14, 15, 16, 23, 24, 25, 26, 27], [0, 1, 2, 3, 4, 5, 6, 7, 8, 9, 10, 11, 12, 13, 14, 15, 16, 17, 18, 19, 20, 21, 22, 23, 24, 25, 26, 27, 28], [0, 1, 2, 3, 4, 5, 6, 7, 8, 9, 10, 11, 12, 13, 14, 15, 16, 17, 18, 19, 20, 21, 22, 23, 24, 25, 26, 27, 28, 29], [0, 1, 2, 3, 4, 5, 6, 7, 8, 9, 10, 11, 12, 13, 14, 15, 16, 17, 18, 19, 20, 21, 22, 23, 24, 25, 26, 27, 28, 29, 30], [0, 1, 2, 3, 4, 5, 6, 7, 8, 9, 10, 11, 12, 13, 14, 15, 16, 17, 18, 19, 20, 21, 22, 23, 24, 25, 26, 27, 28, 29, 30, 31], [0, 1, 2, 3, 4, 5, 6, 7, 8, 9, 10, 11, 12, 13, 14, 15, 16, 17, 18, 19, 20, 21, 22, 23, 24, 25, 26, 27, 28, 29, 30, 31, 32], [0, 1, 2, 3, 4, 5, 6, 7, 8, 9, 10, 11, 12, 13, 14, 15, 16, 17, 18, 19, 20, 21, 22, 23, 24, 25, 26, 27, 28, 29, 30, 31, 32, 33], [0, 1, 2, 3, 4, 5, 6, 7, 8, 9, 10, 11, 12, 13, 14, 15, 16, 17, 18, 19, 20, 21, 22, 23, 24, 25, 26, 27, 28, 29, 30, 31, 32, 33, 34], [0, 1, 2, 3, 4, 5, 6, 7, 8, 9, 10, 11, 12, 13, 14, 15, 16, 17, 18, 19, 20, 21, 22, 23, 24, 25, 26, 27, 28, 29, 30, 31, 32, 33, 34, 35], [0, 1, 2, 3, 4, 5, 6, 7, 8, 9, 10, 11, 12, 13, 14, 15, 16, 17, 18, 19, 20, 21, 22, 23, 24, 25, 26, 27, 28, 29, 30, 31, 32, 33, 34, 35], [0, 1, 2, 3, 4, 5, 6, 7, 8, 9, 10, 11, 12, 13, 14, 15, 16, 17, 18, 19, 20, 21, 22, 23, 24, 25, 26, 27, 28, 29, 30, 31, 32, 33, 34, 35, 37], [0, 1, 2, 3, 4, 5, 6, 7, 8, 9, 10, 11, 12, 13, 14, 15, 16, 17, 18, 19, 20, 21, 22, 23, 24, 25, 26, 27, 28, 29, 30, 31, 32, 33, 34, 35, 36, 37, 38], [0, 1, 2, 3, 4, 5, 6, 7, 8, 9, 10, 11, 12, 13, 14, 15, 16, 17, 18, 19, 20, 21, 22, 23, 24, 25, 26, 27, 28, 29, 30, 31, 32, 33, 34, 35, 36, 37, 38, 39], [0, 1, 2, 3, 4, 5, 6, 7, 8, 9, 10, 11, 12, 13, 14, 15, 16, 17, 18, 19, 20, 21, 22, 23, 24, 25, 26, 27, 28, 29, 30, 31, 32, 33, 34, 35, 36, 37, 38, 39, 40], [0, 1, 2, 3, 4, 5, 6, 7, 8, 9, 10, 11, 12, 13, 14, 15, 16, 17, 18, 19, 20, 21, 22, 23, 24, 25, 26, 27, 28, 29, 30, 31, 32, 33, 34, 35], [0, 1, 2, 3, 4, 5, 6, 7, 8, 9, 10, 11, 12, 13, 14, 15, 16, 17, 18, 19, 20, 21, 22, 23, 24, 25, 26, 27, 28, 29, 30, 31, 32, 33, 34, 35], [0, 1, 2, 3, 4, 5, 6, 7, 8, 9, 10, 11, 12, 13, 14, 15, 16, 17, 18, 19, 20, 21, 22, 23, 24, 25, 26, 27, 28, 29, 30, 31, 32, 33, 34, 35, 42, 43], [0, 1, 2, 3, 4, 5, 6, 7, 8, 9, 10, 11, 12, 13, 14, 15, 16, 17, 18, 19, 20, 21, 22, 23, 24, 25, 26, 27, 28, 29, 30, 31, 32, 33, 34, 35, 42, 43, 44], [0, 1, 2, 3, 4, 5, 6, 7, 8, 9, 10, 11, 12, 13, 14, 15, 16, 17, 18, 19, 20, 21, 22, 23, 24, 25, 26, 27, 28, 29, 30, 31, 32, 33, 34, 35, 42, 43, 44, 45], [0, 1, 2, 3, 4, 5, 6, 7, 8, 9, 10, 11, 12, 13, 14, 15, 16, 17, 18, 19, 20, 21, 22, 23, 24, 25, 26, 27, 28, 29, 30, 31, 32, 33, 34, 35, 36, 37, 38, 39, 40, 41, 42, 43, 44, 45, 46], [0, 1, 2, 3, 4, 5, 6, 7, 8, 9, 10, 11, 12, 13, 14, 15, 16, 17, 18, 19, 20, 21, 22, 23, 24, 25, 26, 27, 28, 29, 30, 31, 32, 33, 34, 35, 36, 37, 38, 39, 40, 41, 42, 43, 44, 45, 46, 47], [0, 1, 2, 3, 4, 5, 6, 7, 8, 9, 10, 11, 12, 13, 14, 15, 16, 17, 18, 19, 20, 21, 22, 23, 24, 25, 26, 27, 28, 29, 30, 31, 32, 33, 34, 35, 36, 37, 38, 39, 40, 41, 42, 43, 44, 45, 46, 47, 48]] rfl (by kernel_rfl) ?_
                      refine qv_v (q_move rfl) ?_
                      refine qv_v (q_move rfl) ?_
                      refine qv_v (q_idxRdN (m := kx) Try.underlying46 sz52 rfl rfl hkl (Reads.row 0 rfl) (by rw [hzml]; omega)) ?_
                      refine qv_v (q_fldRd fo52_0 (by decide) rfl rfl) ?_
                      refine qv_v (q_loadRd Try.underlying3 rfl rfl (Reads.row 0 rfl) hp0) ?_
                      refine qv_v (q_move rfl) ?_
                      refine qv_v (q_as (v := .bool true) (q_leq_n Try.underlying3 rfl rfl) (by rw [decide_eq_true hv33])) ?_
                      refine qv_v (q_move rfl) ?_
                      refine qv_vg (rfl) (q_move rfl) ?_
                      refine qv_vg (rfl) (q_move rfl) ?_
                      refine qv_vg (rfl) (q_move rfl) ?_
                      refine qv_vg (rfl) (q_idxRdN (m := kx) Try.underlying46 sz52 rfl rfl hkl (Reads.row 0 rfl) (by rw [hzml]; omega)) ?_
                      refine qv_vg (rfl) (q_fldRd fo52_0 (by decide) rfl rfl) ?_
                      refine qv_vg (rfl) (q_loadRd Try.underlying3 rfl rfl (Reads.row 0 rfl) hp0) ?_
                      refine qv_vg (rfl) (q_idxS0 (m := e) Try.underlying50 sz4 rfl rfl (by omega) (by rw [Nat.mul_one, Nat.zero_add])) ?_
                      refine qv_vg (rfl) (q_load 1 Try.underlying4 rfl rfl rfl hei) ?_
                      refine qv_vg (rfl) (q_move rfl) ?_
                      refine qv_vg (rfl) (q_move rfl) ?_
                      refine qv_vg (rfl) (q_move rfl) ?_
                      refine qv_vg (rfl) (q_idxRdN (m := kx) Try.underlying46 sz52 rfl rfl hkl (Reads.row 0 rfl) (by rw [hzml]; omega)) ?_
                      refine qv_vg (rfl) (q_fldRd fo52_2 (by decide) rfl rfl) ?_
                      refine qv_vg (rfl) (q_fldRd fo38_3 (by decide) rfl rfl) ?_
                      refine qv_vg (rfl) (q_loadRd Try.underlying3 rfl rfl (Reads.row 0 rfl) hp73) ?_
                      refine qv_vg (rfl) (q_move rfl) ?_
                      refine qv_vg (rfl) (q_move rfl) ?_
                      refine qv_vg (rfl) (q_idxRdN (m := kx) Try.underlying46 sz52 rfl rfl hkl (Reads.row 0 rfl) (by rw [hzml]; omega)) ?_
                      refine qv_vg (rfl) (q_fldRd fo52_0 (by decide) rfl rfl) ?_
                      refine qv_vg (rfl) (q_loadRd Try.underlying3 rfl rfl (Reads.row 0 rfl) hp0) ?_
                      first | (refine qv_vg (rfl) (q_sub_n (q := 1) rfl rfl (by omega) (by omega)) ?_) | (refine qv_vg (rfl) (q_sub_i rfl rfl (by omega) (by omega)) ?_)
                      refine qv_vg (rfl) (q_as (v := .bool false) (q_neq_n Try.underlying3 rfl rfl) (by rw [decide_eq_true rfl]; rfl)) ?_
                      first | (refine qv_vg (rfl) (q_pickT rfl rfl) ?_) | (refine qv_vg (rfl) (q_pickF rfl rfl) ?_)
                      first | (refine qv_v (q_pickT rfl rfl) ?_) | (refine qv_v (q_pickF rfl rfl) ?_)
                      refine qv_v (q_move rfl) ?_
                      refine qv_vg (rfl) (q_move rfl) ?_
                      refine qv_vg (rfl) (q_as (v := .bool true) (q_gtr_n (q := 0) Try.underlying3 rfl rfl) (by rw [decide_eq_true hq33])) ?_
                      refine qv_vg (rfl) (q_move rfl) ?_
                      refine qv_vg (rfl) (q_move rfl) ?_
                      refine qv_vg (rfl) (q_move rfl) ?_
                      first | (refine qv_vg (rfl) (q_sub_n (q := 1) rfl rfl (by omega) (by omega)) ?_) | (refine qv_vg (rfl) (q_sub_i rfl rfl (by omega) (by omega)) ?_)
                      refine qv_vg (rfl) (q_idxRdN (m := kx - 1) Try.underlying46 sz52 rfl rfl (by omega) (Reads.row 0 rfl) (by rw [hzml]; omega)) ?_
                      refine qv_vg (rfl) (q_fldRd fo52_0 (by decide) rfl rfl) ?_
                      refine qv_vg (rfl) (q_loadRd Try.underlying3 rfl rfl (Reads.row 0 rfl) hp0') ?_
                      refine qv_vg (rfl) (q_move rfl) ?_
                      refine qv_vg (rfl) (q_move rfl) ?_
                      refine qv_vg (rfl) (q_idxRdN (m := kx) Try.underlying46 sz52 rfl rfl hkl (Reads.row 0 rfl) (by rw [hzml]; omega)) ?_
                      refine qv_vg (rfl) (q_fldRd fo52_0 (by decide) rfl rfl) ?_
                      refine qv_vg (rfl) (q_loadRd Try.underlying3 rfl rfl (Reads.row 0 rfl) hp0) ?_
                      refine qv_end ?_
                      refine VL.keep (Sub.cons (s := 0) rfl (Sub.cons (s := 1) rfl (Sub.cons (s := 5) rfl (Sub.cons (s := 6) rfl (Sub.cons (s := 12) rfl (Sub.cons (s := 13) rfl (Sub.cons (s := 14) rfl (Sub.cons (s := 17) rfl (Sub.cons (s := 18) rfl (Sub.cons (s := 137) rfl (Sub.cons (s := 172) rfl (Sub.cons (s := 175) rfl (Sub.cons (s := 181) rfl (Sub.cons (s := 186) rfl (Sub.nil _))))))))))))))) ?_
                      refine vl_vg rfl (q_as (v := .bool false) (q_geq_n Try.underlying3 rfl rfl) (by rw [decide_eq_false (by omega)])) rfl ?_
                      first | (refine vl_vg rfl (q_pickT rfl rfl) rfl ?_) | (refine vl_vg rfl (q_pickF rfl rfl) rfl ?_)
                      first | (refine vl_v (q_pickT rfl rfl) rfl ?_) | (refine vl_v (q_pickF rfl rfl) rfl ?_)
                      refine vl_nil ?_
                      refine (qn_n (th_n ?_))
                      refine VC_no (rfl) ?_
                      refine VC_skip ?_
                      refine (bl_n (th_n ?_))
                      refine VC_region ?_
                      refine vl_v (q_move rfl) rfl ?_
                      first | (refine vl_v (q_add_n (q := 1) rfl rfl (by omega)) rfl ?_) | (refine vl_v (q_add_i rfl rfl (by omega) (by omega)) rfl ?_)
                      refine vl_v (q_assign rfl) rfl ?_
                      refine vl_nil ?_
                      refine (th_n ?_)
                      refine ⟨kx + 1, by omega, by omega, (Sub.cons (s := 0) rfl (Sub.cons (s := 1) rfl (Sub.cons (s := 5) rfl (Sub.cons (s := 6) rfl (Sub.cons (s := 12) rfl (Sub.cons (s := 13) rfl (Sub.cons (s := 14) rfl (Sub.cons (s := 17) rfl (Sub.cons (s := 18) rfl (Sub.nil _)))))))))), fun w H => H⟩
                    · skip
                      obtain ⟨y', hy'⟩ : ∃ y, zs[kx - 1]? = some y := ⟨_, List.getElem?_eq_getElem (by omega)⟩
                      have hyr' := hrg y' (List.mem_of_getElem? hy')
                      obtain ⟨e', he'⟩ := Int.eq_ofNat_of_zero_le (show 0 ≤ y'.1.id by omega)
                      have hp0' : (mailsC zs)[(kx - 1) * 138 + 0]? = some (vN e') := by rw [mget_in (mailsC_part hzok hy') mailV_id (by omega), he']
                      have hlt : e' < e := by
                        have h1 := (List.pairwise_iff_getElem.1 hup) (kx - 1) kx (by rw [List.length_map]; omega) (by rw [List.length_map]; omega) (by omega)
                        rw [List.getElem_map, List.getElem_map] at h1
                        rw [(List.getElem?_eq_some_iff.1 hy).2, (List.getElem?_eq_some_iff.1 hy').2, he, he'] at h1
                        omega
                      refine VC_drawV 47 [[], [], [0, 1], [2], [3], [], [4, 5], [6], [7], [7], [7], [9, 10, 7], [11, 7], [12, 7], [8, 13, 7], [14, 7], [15, 7], [16], [16], [17, 18, 16], [19, 16], [20, 16], [21, 16], [16], [16], [23, 24, 16], [25, 16], [26, 16], [27, 16], [22, 28, 16], [16, 29, 7], [7, 30], [31, 16], [32], [33, 32], [34, 32], [35], [35], [37, 35], [36, 38, 35], [39, 35], [40, 35], [35], [35], [42, 43, 35], [44, 35], [45, 35], [41, 46, 35], [35, 47, 32], [32, 48]] [[], [], [0, 1], [0, 1, 2], [0, 1, 2, 3], [], [0, 1, 2, 3, 4, 5], [0, 1, 2, 3, 4, 5, 6], [0, 1, 2, 3, 4, 5, 6, 7], [0, 1, 2, 3, 4, 5, 6, 7], [0, 1, 2, 3, 4, 5, 6, 7], [0, 1, 2, 3, 4, 5, 6, 7, 9, 10], [0, 1, 2, 3, 4, 5, 6, 7, 9, 10, 11], [0, 1, 2, 3, 4, 5, 6, 7, 9, 10, 11, 12], [0, 1, 2, 3, 4, 5, 6, 7, 8, 9, 10, 11, 12, 13], [0, 1, 2, 3, 4, 5, 6, 7, 8, 9, 10, 11, 12, 13, 14], [0, 1, 2, 3, 4, 5, 6, 7, 8, 9, 10, 11, 12, 13, 14, 15], [0, 1, 2, 3, 4, 5, 6, 7, 8, 9, 10, 11, 12, 13, 14, 15, 16], [0, 1, 2, 3, 4, 5, 6, 7, 8, 9, 10, 11, 12, 13, 14, 15, 16], [0, 1, 2, 3, 4, 5, 6, 7, 8, 9, 10, 11, 12, 13, 14, 15, 16, 17, 18], [0, 1, 2, 3, 4, 5, 6, 7, 8, 9, 10, 11, 12, 13, 14, 15, 16, 17, 18, 19], [0, 1, 2, 3, 4, 5, 6, 7, 8, 9, 10, 11, 12, 13, 14, 15, 16, 17, 18, 19, 20], [0, 1, 2, 3, 4, 5, 6, 7, 8, 9, 10, 11, 12, 13, 14, 15, 16, 17, 18, 19, 20, 21], [0, 1, 2, 3, 4, 5, 6, 7, 8, 9, 10, 11, 12, 13, 14, 15, 16], [0, 1, 2, 3, 4, 5, 6, 7, 8, 9, 10, 11, 12, 13, 14, 15, 16], [0, 1, 2, 3, 4, 5, 6, 7, 8, 9, 10, 11, 12, 13, 14, 15, 16, 23, 24], [0, 1, 2, 3, 4, 5, 6, 7, 8, 9, 10, 11, 12, 13, 14, 15, 16, 23, 24, 25], [0, 1, 2, 3, 4, 5, 6, 7, 8, 9, 10, 11, 12, 13, 14, 15, 16, 23, 24, 25, 26], [0, 1, 2, 3, 4, 5, 6, 7, 8, 9, 10, 11, 12, 13, 14, 15, 16, 23, 24, 25, 26, 27], [0, 1, 2, 3, 4, 5, 6, 7, 8, 9, 10, 11, 12, 13, 14, 15, 16, 17, 18, 19, 20, 21, 22, 23, 24, 25, 26, 27, 28], [0, 1, 2, 3, 4, 5, 6, 7, 8, 9, 10, 11, 12, 13, 14, 15, 16, 17, 18, 19, 20, 21, 22, 23, 24, 25, 26, 27, 28, 29], [0, 1, 2, 3, 4, 5, 6, 7, 8, 9, 10, 11, 12, 13, 14, 15, 16, 17, 18, 19, 20, 21, 22, 23, 24, 25, 26, 27, 28, 29, 30], [0, 1, 2, 3, 4, 5, 6, 7, 8, 9, 10, 11, 12, 13, 14, 15, 16, 17, 18, 19, 20, 21, 22, 23, 24, 25, 26, 27, 28, 29, 30, 31], [0, 1, 2, 3, 4, 5, 6, 7, 8, 9, 10, 11, 12, 13, 14, 15, 16, 17, 18, 19, 20, 21, 22, 23, 24, 25, 26, 27, 28, 29, 30, 31, 32], [0, 1, 2, 3, 4, 5, 6, 7, 8, 9, 10, 11, 12, 13, 14, 15, 16, 17, 18, 19, 20, 21, 22, 23, 24, 25, 26, 27, 28, 29, 30, 31, 32, 33], [0, 1, 2, 3, 4, 5, 6, 7, 8, 9, 10, 11, 12, 13, 14, 15, 16, 17, 18, 19, 20, 21, 22, 23, 24, 25, 26, 27, 28, 29, 30, 31, 32, 33, 34], [0, 1, 2, 3, 4, 5, 6, 7, 8, 9, 10, 11, 12, 13, 14, 15, 16, 17, 18, 19, 20, 21, 22, 23, 24, 25, 26, 27, 28, 29, 30, 31, 32, 33, 34, 35], [0, 1, 2, 3, 4, 5, 6, 7, 8, 9, 10, 11, 12, 13, 14, 15, 16, 17, 18, 19, 20, 21, 22, 23, 24, 25, 26, 27, 28, 29, 30, 31, 32, 33, 34, 35], [0, 1, 2, 3, 4, 5, 6, 7, 8, 9, 10, 11, 12, 13, 14, 15, 16, 17, 18, 19, 20, 21, 22, 23, 24, 25, 26, 27, 28, 29, 30, 31, 32, 33, 34, 35, 37], [0, 1, 2, 3, 4, 5, 6, 7, 8, 9, 10, 11, 12, 13, 14, 15, 16, 17, 18, 19, 20, 21, 22, 23, 24, 25, 26, 27, 28, 29, 30, 31, 32, 33, 34, 35, 36, 37, 38], [0, 1, 2, 3, 4, 5, 6, 7, 8, 9, 10, 11, 12, 13, 14, 15, 16, 17, 18, 19, 20, 21, 22, 23, 24, 25, 26, 27, 28, 29, 30, 31, 32, 33, 34, 35, 36, 37, 38, 39], [0, 1, 2, 3, 4, 5, 6, 7, 8, 9, 10, 11, 12, 13, 14, 15, 16, 17, 18, 19, 20, 21, 22, 23, 24, 25, 26, 27, 28, 29, 30, 31, 32, 33, 34, 35, 36, 37, 38, 39, 40], [0, 1, 2, 3, 4, 5, 6, 7, 8, 9, 10, 11, 12, 13, 14, 15, 16, 17, 18, 19, 20, 21, 22, 23, 24, 25, 26, 27, 28, 29, 30, 31, 32, 33, 34, 35], [0, 1, 2, 3, 4, 5, 6, 7, 8, 9, 10, 11, 12, 13, 14, 15, 16, 17, 18, 19, 20, 21, 22, 23, 24, 25, 26, 27, 28, 29, 30, 31, 32, 33, 34, 35], [0, 1, 2, 3, 4, 5, 6, 7, 8, 9, 10, 11, 12, 13, 14, 15, 16, 17, 18, 19, 20, 21, 22, 23, 24, 25, 26, 27, 28, 29, 30, 31, 32, 33, 34, 35, 42, 43], [0, 1, 2, 3, 4, 5, 6, 7, 8, 9, 10, 11, 12, 13, 14, 15, 16, 17, 18, 19, 20, 21, 22, 23, 24, 25, 26, 27, 28, 29, 30, 31, 32, 33, 34, 35, 42, 43, 44], [0, 1, 2, 3, 4, 5, 6, 7, 8, 9, 10, 11, 12, 13, 14, 15, 16, 17, 18, 19, 20, 21, 22, 23, 24, 25, 26, 27, 28, 29, 30, 31, 32, 33, 34, 35, 42, 43, 44, 45], [0, 1, 2, 3, 4, 5, 6, 7, 8, 9, 10, 11, 12, 13, 14, 15, 16, 17, 18, 19, 20, 21, 22, 23, 24, 25, 26, 27, 28, 29, 30, 31, 32, 33, 34, 35, 36, 37, 38, 39, 40, 41, 42, 43, 44, 45, 46], [0, 1, 2, 3, 4, 5, 6, 7, 8, 9, 10, 11, 12, 13, 14, 15, 16, 17, 18, 19, 20, 21, 22, 23, 24, 25, 26, 27, 28, 29, 30, 31, 32, 33, 34, 35, 36, 37, 38, 39, 40, 41, 42, 43, 44, 45, 46, 47], [0, 1, 2, 3, 4, 5, 6, 7, 8, 9, 10, 11, 12, 13, 14, 15, 16, 17, 18, 19, 20, 21, 22, 23, 24, 25, 26, 27, 28, 29, 30, 31, 32, 33, 34, 35, 36, 37, 38, 39, 40, 41, 42, 43, 44, 45, 46, 47, 48]] rfl (by kernel_rfl) ?_
                      refine qv_v (q_move rfl) ?_
                      refine qv_v (q_move rfl) ?_
                      refine qv_v (q_idxRdN (m := kx) Try.underlying46 sz52 rfl rfl hkl (Reads.row 0 rfl) (by rw [hzml]; omega)) ?_
                      refine qv_v (q_fldRd fo52_0 (by decide) rfl rfl) ?_
                      refine qv_v (q_loadRd Try.underlying3 rfl rfl (Reads.row 0 rfl) hp0) ?_
                      refine qv_v (q_move rfl) ?_
                      refine qv_v (q_as (v := .bool false) (q_leq_n Try.underlying3 rfl rfl) (by rw [decide_eq_false hv33])) ?_
                      refine qv_v (q_move rfl) ?_
                      refine qv_skip rfl ?_
                      refine qv_skip rfl ?_
                      refine qv_skip rfl ?_
                      refine qv_skip rfl ?_
                      refine qv_skip rfl ?_
                      refine qv_skip rfl ?_
                      refine qv_skip rfl ?_
                      refine qv_skip rfl ?_
                      refine qv_skip rfl ?_
                      refine qv_skip rfl ?_
                      refine qv_skip rfl ?_
                      refine qv_skip rfl ?_
                      refine qv_skip rfl ?_
                      refine qv_skip rfl ?_
                      refine qv_skip rfl ?_
                      refine qv_skip rfl ?_
                      refine qv_skip rfl ?_
                      refine qv_skip rfl ?_
                      refine qv_skip rfl ?_
                      refine qv_skip rfl ?_
                      refine qv_skip rfl ?_
                      refine qv_skip rfl ?_
                      refine qv_skip rfl ?_
                      first | (refine qv_v (q_pickT rfl rfl) ?_) | (refine qv_v (q_pickF rfl rfl) ?_)
                      refine qv_v (q_move rfl) ?_
                      refine qv_vg (rfl) (q_move rfl) ?_
                      refine qv_vg (rfl) (q_as (v := .bool true) (q_gtr_n (q := 0) Try.underlying3 rfl rfl) (by rw [decide_eq_true hq33])) ?_
                      refine qv_vg (rfl) (q_move rfl) ?_
                      refine qv_vg (rfl) (q_move rfl) ?_
                      refine qv_vg (rfl) (q_move rfl) ?_
                      first | (refine qv_vg (rfl) (q_sub_n (q := 1) rfl rfl (by omega) (by omega)) ?_) | (refine qv_vg (rfl) (q_sub_i rfl rfl (by omega) (by omega)) ?_)
                      refine qv_vg (rfl) (q_idxRdN (m := kx - 1) Try.underlying46 sz52 rfl rfl (by omega) (Reads.row 0 rfl) (by rw [hzml]; omega)) ?_
                      refine qv_vg (rfl) (q_fldRd fo52_0 (by decide) rfl rfl) ?_
                      refine qv_vg (rfl) (q_loadRd Try.underlying3 rfl rfl (Reads.row 0 rfl) hp0') ?_
                      refine qv_vg (rfl) (q_move rfl) ?_
                      refine qv_vg (rfl) (q_move rfl) ?_
                      refine qv_vg (rfl) (q_idxRdN (m := kx) Try.underlying46 sz52 rfl rfl hkl (Reads.row 0 rfl) (by rw [hzml]; omega)) ?_
                      refine qv_vg (rfl) (q_fldRd fo52_0 (by decide) rfl rfl) ?_
                      refine qv_vg (rfl) (q_loadRd Try.underlying3 rfl rfl (Reads.row 0 rfl) hp0) ?_
                      refine qv_end ?_
                      refine VL.keep (Sub.cons (s := 0) rfl (Sub.cons (s := 1) rfl (Sub.cons (s := 5) rfl (Sub.cons (s := 6) rfl (Sub.cons (s := 12) rfl (Sub.cons (s := 13) rfl (Sub.cons (s := 14) rfl (Sub.cons (s := 17) rfl (Sub.cons (s := 18) rfl (Sub.cons (s := 137) rfl (Sub.cons (s := 172) rfl (Sub.cons (s := 175) rfl (Sub.cons (s := 181) rfl (Sub.cons (s := 186) rfl (Sub.nil _))))))))))))))) ?_
                      refine vl_vg rfl (q_as (v := .bool false) (q_geq_n Try.underlying3 rfl rfl) (by rw [decide_eq_false (by omega)])) rfl ?_
                      first | (refine vl_vg rfl (q_pickT rfl rfl) rfl ?_) | (refine vl_vg rfl (q_pickF rfl rfl) rfl ?_)
                      first | (refine vl_v (q_pickT rfl rfl) rfl ?_) | (refine vl_v (q_pickF rfl rfl) rfl ?_)
                      refine vl_nil ?_
                      refine (qn_n (th_n ?_))
                      refine VC_no (rfl) ?_
                      refine VC_skip ?_
                      refine (bl_n (th_n ?_))
                      refine VC_region ?_
                      refine vl_v (q_move rfl) rfl ?_
                      first | (refine vl_v (q_add_n (q := 1) rfl rfl (by omega)) rfl ?_) | (refine vl_v (q_add_i rfl rfl (by omega) (by omega)) rfl ?_)
                      refine vl_v (q_assign rfl) rfl ?_
                      refine vl_nil ?_
                      refine (th_n ?_)
                      refine ⟨kx + 1, by omega, by omega, (Sub.cons (s := 0) rfl (Sub.cons (s := 1) rfl (Sub.cons (s := 5) rfl (Sub.cons (s := 6) rfl (Sub.cons (s := 12) rfl (Sub.cons (s := 13) rfl (Sub.cons (s := 14) rfl (Sub.cons (s := 17) rfl (Sub.cons (s := 18) rfl (Sub.nil _)))))))))), fun w H => H⟩
                  · skip
                    by_cases hv33 : e ≤ i
                    · skip
                      have hei : (boolsC (gone.set d true))[e]? = some (.bool false) := boolsC_at (by rw [hgn2.at_ e (by omega) hv33, decide_eq_true (List.mem_map.2 ⟨y.1, hzm y hym, he⟩)]; rfl)
                      have hti : y.1.s.ti = ((e - 1 : Nat) : Int) := by have := hoo2.ti _ (hzm y hym) (by rw [he]; omega); omega
                      rw [hti] at hp73
                      have hgm : 1 ≤ e ∧ e ≤ i := by omega
                      refine VC_drawV 47 [[], [], [0, 1], [2], [3], [], [4, 5], [6], [7], [7], [7], [9, 10, 7], [11, 7], [12, 7], [8, 13, 7], [14, 7], [15, 7], [16], [16], [17, 18, 16], [19, 16], [20, 16], [21, 16], [16], [16], [23, 24, 16], [25, 16], [26, 16], [27, 16], [22, 28, 16], [16, 29, 7], [7, 30], [31, 16], [32], [33, 32], [34, 32], [35], [35], [37, 35], [36, 38, 35], [39, 35], [40, 35], [35], [35], [42, 43, 35], [44, 35], [45, 35], [41, 46, 35], [35, 47, 32], [32, 48]] [[], [], [0, 1], [0, 1, 2], [0, 1, 2, 3], [], [0, 1, 2, 3, 4, 5], [0, 1, 2, 3, 4, 5, 6], [0, 1, 2, 3, 4, 5, 6, 7], [0, 1, 2, 3, 4, 5, 6, 7], [0, 1, 2, 3, 4, 5, 6, 7], [0, 1, 2, 3, 4, 5, 6, 7, 9, 10], [0, 1, 2, 3, 4, 5, 6, 7, 9, 10, 11], [0, 1, 2, 3, 4, 5, 6, 7, 9, 10, 11, 12], [0, 1, 2, 3, 4, 5, 6, 7, 8, 9, 10, 11, 12, 13], [0, 1, 2, 3, 4, 5, 6, 7, 8, 9, 10, 11, 12, 13, 14], [0, 1, 2, 3, 4, 5, 6, 7, 8, 9, 10, 11, 12, 13, 14, 15], [0, 1, 2, 3, 4, 5, 6, 7, 8, 9, 10, 11, 12, 13, 14, 15, 16], [0, 1, 2, 3, 4, 5, 6, 7, 8, 9, 10, 11, 12, 13, 14, 15, 16], [0, 1, 2, 3, 4, 5, 6, 7, 8, 9, 10, 11, 12, 13, 14, 15, 16, 17, 18], [0, 1, 2, 3, 4, 5, 6, 7, 8, 9, 10, 11, 12, 13, 14, 15, 16, 17, 18, 19], [0, 1, 2, 3, 4, 5, 6, 7, 8, 9, 10, 11, 12, 13, 14, 15, 16, 17, 18, 19, 20], [0, 1, 2, 3, 4, 5, 6, 7, 8, 9, 10, 11, 12, 13, 14, 15, 16, 17, 18, 19, 20, 21], [0, 1, 2, 3, 4, 5, 6, 7, 8, 9, 10, 11, 12, 13, 14, 15, 16], [0, 1, 2, 3, 4, 5, 6, 7, 8, 9, 10, 11, 12, 13, 14, 15, 16], [0, 1, 2, 3, 4, 5, 6, 7, 8, 9, 10, 11, 12, 13, 14, 15, 16, 23, 24], [0, 1, 2, 3, 4, 5, 6, 7, 8, 9, 10, 11, 12, 13, 14, 15, 16, 23, 24, 25], [0, 1, 2, 3, 4, 5, 6, 7, 8, 9, 10, 11, 12, 13, 14, 15, 16, 23, 24, 25, 26], [0, 1, 2, 3, 4, 5, 6, 7, 8, 9, 10, 11, 12, 13, 14, 15, 16, 23, 24, 25, 26, 27], [0, 1, 2, 3, 4, 5, 6, 7, 8, 9, 10, 11, 12, 13, 14, 15, 16, 17, 18, 19, 20, 21, 22, 23, 24, 25, 26, 27, 28], [0, 1, 2, 3, 4, 5, 6, 7, 8, 9, 10, 11, 12, 13, 14, 15, 16, 17, 18, 19, 20, 21, 22, 23, 24, 25, 26, 27, 28, 29], [0, 1, 2, 3, 4, 5, 6, 7, 8, 9, 10, 11, 12, 13, 14, 15, 16, 17, 18, 19, 20, 21, 22, 23, 24, 25, 26, 27, 28, 29, 30], [0, 1, 2, 3, 4, 5, 6, 7, 8, 9, 10, 11, 12, 13, 14, 15, 16, 17, 18, 19, 20, 21, 22, 23, 24, 25, 26, 27, 28, 29, 30, 31], [0, 1, 2, 3, 4, 5, 6, 7, 8, 9, 10, 11, 12, 13, 14, 15, 16, 17, 18, 19, 20, 21, 22, 23, 24, 25, 26, 27, 28, 29, 30, 31, 32], [0, 1, 2, 3, 4, 5, 6, 7, 8, 9, 10, 11, 12, 13, 14, 15, 16, 17, 18, 19, 20, 21, 22, 23, 24, 25, 26, 27, 28, 29, 30, 31, 32, 33], [0, 1, 2, 3, 4, 5, 6, 7, 8, 9, 10, 11, 12, 13, 14, 15, 16, 17, 18, 19, 20, 21, 22, 23, 24, 25, 26, 27, 28, 29, 30, 31, 32, 33, 34], [0, 1, 2, 3, 4, 5, 6, 7, 8, 9, 10, 11, 12, 13, 14, 15, 16, 17, 18, 19, 20, 21, 22, 23, 24, 25, 26, 27, 28, 29, 30, 31, 32, 33, 34, 35], [0, 1, 2, 3, 4, 5, 6, 7, 8, 9, 10, 11, 12, 13, 14, 15, 16, 17, 18, 19, 20, 21, 22, 23, 24, 25, 26, 27, 28, 29, 30, 31, 32, 33, 34, 35], [0, 1, 2, 3, 4, 5, 6, 7, 8, 9, 10, 11, 12, 13, 14, 15, 16, 17, 18, 19, 20, 21, 22, 23, 24, 25, 26, 27, 28, 29, 30, 31, 32, 33, 34, 35, 37], [0, 1, 2, 3, 4, 5, 6, 7, 8, 9, 10, 11, 12, 13, 14, 15, 16, 17, 18, 19, 20, 21, 22, 23, 24, 25, 26, 27, 28, 29, 30, 31, 32, 33, 34, 35, 36, 37, 38], [0, 1, 2, 3, 4, 5, 6, 7, 8, 9, 10, 11, 12, 13, 14, 15, 16, 17, 18, 19, 20, 21, 22, 23, 24, 25, 26, 27, 28, 29, 30, 31, 32, 33, 34, 35, 36, 37, 38, 39], [0, 1, 2, 3, 4, 5, 6, 7, 8, 9, 10, 11, 12, 13, 14, 15, 16, 17, 18, 19, 20, 21, 22, 23, 24, 25, 26, 27, 28, 29, 30, 31, 32, 33, 34, 35, 36, 37, 38, 39, 40], [0, 1, 2, 3, 4, 5, 6, 7, 8, 9, 10, 11, 12, 13, 14, 15, 16, 17, 18, 19, 20, 21, 22, 23, 24, 25, 26, 27, 28, 29, 30, 31, 32, 33, 34, 35], [0, 1, 2, 3, 4, 5, 6, 7, 8, 9, 10, 11, 12, 13, 14, 15, 16, 17, 18, 19, 20, 21, 22, 23, 24, 25, 26, 27, 28, 29, 30, 31, 32, 33, 34, 35], [0, 1, 2, 3, 4, 5, 6, 7, 8, 9, 10, 11, 12, 13, 14, 15, 16, 17, 18, 19, 20, 21, 22, 23, 24, 25, 26, 27, 28, 29, 30, 31, 32, 33, 34, 35, 42, 43], [0, 1, 2, 3, 4, 5, 6, 7, 8, 9, 10, 11, 12, 13, 14, 15, 16, 17, 18, 19, 20, 21, 22, 23, 24, 25, 26, 27, 28, 29, 30, 31, 32, 33, 34, 35, 42, 43, 44], [0, 1, 2, 3, 4, 5, 6, 7, 8, 9, 10, 11, 12, 13, 14, 15, 16, 17, 18, 19, 20, 21, 22, 23, 24, 25, 26, 27, 28, 29, 30, 31, 32, 33, 34, 35, 42, 43, 44, 45], [0, 1, 2, 3, 4, 5, 6, 7, 8, 9, 10, 11, 12, 13, 14, 15, 16, 17, 18, 19, 20, 21, 22, 23, 24, 25, 26, 27, 28, 29, 30, 31, 32, 33, 34, 35, 36, 37, 38, 39, 40, 41, 42, 43, 44, 45, 46], [0, 1, 2, 3, 4, 5, 6, 7, 8, 9, 10, 11, 12, 13, 14, 15, 16, 17, 18, 19, 20, 21, 22, 23, 24, 25, 26, 27, 28, 29, 30, 31, 32, 33, 34, 35, 36, 37, 38, 39, 40, 41, 42, 43, 44, 45, 46, 47], [0, 1, 2, 3, 4, 5, 6, 7, 8, 9, 10, 11, 12, 13, 14, 15, 16, 17, 18, 19, 20, 21, 22, 23, 24, 25, 26, 27, 28, 29, 30, 31, 32, 33, 34, 35, 36, 37, 38, 39, 40, 41, 42, 43, 44, 45, 46, 47, 48]] rfl (by kernel_rfl) ?_
                      refine qv_v (q_move rfl) ?_
                      refine qv_v (q_move rfl) ?_
                      refine qv_v (q_idxRdN (m := kx) Try.underlying46 sz52 rfl rfl hkl (Reads.row 0 rfl) (by rw [hzml]; omega)) ?_
                      refine qv_v (q_fldRd fo52_0 (by decide) rfl rfl) ?_
                      refine qv_v (q_loadRd Try.underlying3 rfl rfl (Reads.row 0 rfl) hp0) ?_
                      refine qv_v (q_move rfl) ?_
                      refine qv_v (q_as (v := .bool true) (q_leq_n Try.underlying3 rfl rfl) (by rw [decide_eq_true hv33])) ?_
                      refine qv_v (q_move rfl) ?_
                      refine qv_vg (rfl) (q_move rfl) ?_
                      refine qv_vg (rfl) (q_move rfl) ?_
                      refine qv_vg (rfl) (q_move rfl) ?_
                      refine qv_vg (rfl) (q_idxRdN (m := kx) Try.underlying46 sz52 rfl rfl hkl (Reads.row 0 rfl) (by rw [hzml]; omega)) ?_
                      refine qv_vg (rfl) (q_fldRd fo52_0 (by decide) rfl rfl) ?_
                      refine qv_vg (rfl) (q_loadRd Try.underlying3 rfl rfl (Reads.row 0 rfl) hp0) ?_
                      refine qv_vg (rfl) (q_idxS0 (m := e) Try.underlying50 sz4 rfl rfl (by omega) (by rw [Nat.mul_one, Nat.zero_add])) ?_
                      refine qv_vg (rfl) (q_load 1 Try.underlying4 rfl rfl rfl hei) ?_
                      refine qv_vg (rfl) (q_move rfl) ?_
                      refine qv_vg (rfl) (q_move rfl) ?_
                      refine qv_vg (rfl) (q_move rfl) ?_
                      refine qv_vg (rfl) (q_idxRdN (m := kx) Try.underlying46 sz52 rfl rfl hkl (Reads.row 0 rfl) (by rw [hzml]; omega)) ?_
                      refine qv_vg (rfl) (q_fldRd fo52_2 (by decide) rfl rfl) ?_
                      refine qv_vg (rfl) (q_fldRd fo38_3 (by decide) rfl rfl) ?_
                      refine qv_vg (rfl) (q_loadRd Try.underlying3 rfl rfl (Reads.row 0 rfl) hp73) ?_
                      refine qv_vg (rfl) (q_move rfl) ?_
                      refine qv_vg (rfl) (q_move rfl) ?_
                      refine qv_vg (rfl) (q_idxRdN (m := kx) Try.underlying46 sz52 rfl rfl hkl (Reads.row 0 rfl) (by rw [hzml]; omega)) ?_
                      refine qv_vg (rfl) (q_fldRd fo52_0 (by decide) rfl rfl) ?_
                      refine qv_vg (rfl) (q_loadRd Try.underlying3 rfl rfl (Reads.row 0 rfl) hp0) ?_
                      first | (refine qv_vg (rfl) (q_sub_n (q := 1) rfl rfl (by omega) (by omega)) ?_) | (refine qv_vg (rfl) (q_sub_i rfl rfl (by omega) (by omega)) ?_)
                      refine qv_vg (rfl) (q_as (v := .bool false) (q_neq_n Try.underlying3 rfl rfl) (by rw [decide_eq_true rfl]; rfl)) ?_
                      first | (refine qv_vg (rfl) (q_pickT rfl rfl) ?_) | (refine qv_vg (rfl) (q_pickF rfl rfl) ?_)
                      first | (refine qv_v (q_pickT rfl rfl) ?_) | (refine qv_v (q_pickF rfl rfl) ?_)
                      refine qv_v (q_move rfl) ?_
                      refine qv_vg (rfl) (q_move rfl) ?_
                      refine qv_vg (rfl) (q_as (v := .bool false) (q_gtr_n (q := 0) Try.underlying3 rfl rfl) (by rw [decide_eq_false hq33])) ?_
                      refine qv_vg (rfl) (q_move rfl) ?_
                      refine qv_skip rfl ?_
                      refine qv_skip rfl ?_
                      refine qv_skip rfl ?_
                      refine qv_skip rfl ?_
                      refine qv_skip rfl ?_
                      refine qv_skip rfl ?_
                      refine qv_skip rfl ?_
                      refine qv_skip rfl ?_
                      refine qv_skip rfl ?_
                      refine qv_skip rfl ?_
                      refine qv_skip rfl ?_
                      refine qv_end ?_
                      refine VL.keep (Sub.cons (s := 0) rfl (Sub.cons (s := 1) rfl (Sub.cons (s := 5) rfl (Sub.cons (s := 6) rfl (Sub.cons (s := 12) rfl (Sub.cons (s := 13) rfl (Sub.cons (s := 14) rfl (Sub.cons (s := 17) rfl (Sub.cons (s := 18) rfl (Sub.cons (s := 137) rfl (Sub.cons (s := 172) rfl (Sub.cons (s := 175) rfl (Sub.cons (s := 181) rfl (Sub.cons (s := 186) rfl (Sub.nil _))))))))))))))) ?_
                      refine vl_skip rfl rfl ?_
                      first | (refine vl_vg rfl (q_pickT rfl rfl) rfl ?_) | (refine vl_vg rfl (q_pickF rfl rfl) rfl ?_)
                      first | (refine vl_v (q_pickT rfl rfl) rfl ?_) | (refine vl_v (q_pickF rfl rfl) rfl ?_)
                      refine vl_nil ?_
                      refine (qn_n (th_n ?_))
                      refine VC_no (rfl) ?_
                      refine VC_skip ?_
                      refine (bl_n (th_n ?_))
                      refine VC_region ?_
                      refine vl_v (q_move rfl) rfl ?_
                      first | (refine vl_v (q_add_n (q := 1) rfl rfl (by omega)) rfl ?_) | (refine vl_v (q_add_i rfl rfl (by omega) (by omega)) rfl ?_)
                      refine vl_v (q_assign rfl) rfl ?_
                      refine vl_nil ?_
                      refine (th_n ?_)
                      refine ⟨kx + 1, by omega, by omega, (Sub.cons (s := 0) rfl (Sub.cons (s := 1) rfl (Sub.cons (s := 5) rfl (Sub.cons (s := 6) rfl (Sub.cons (s := 12) rfl (Sub.cons (s := 13) rfl (Sub.cons (s := 14) rfl (Sub.cons (s := 17) rfl (Sub.cons (s := 18) rfl (Sub.nil _)))))))))), fun w H => H⟩
                    · skip
                      refine VC_drawV 47 [[], [], [0, 1], [2], [3], [], [4, 5], [6], [7], [7], [7], [9, 10, 7], [11, 7], [12, 7], [8, 13, 7], [14, 7], [15, 7], [16], [16], [17, 18, 16], [19, 16], [20, 16], [21, 16], [16], [16], [23, 24, 16], [25, 16], [26, 16], [27, 16], [22, 28, 16], [16, 29, 7], [7, 30], [31, 16], [32], [33, 32], [34, 32], [35], [35], [37, 35], [36, 38, 35], [39, 35], [40, 35], [35], [35], [42, 43, 35], [44, 35], [45, 35], [41, 46, 35], [35, 47, 32], [32, 48]] [[], [], [0, 1], [0, 1, 2], [0, 1, 2, 3], [], [0, 1, 2, 3, 4, 5], [0, 1, 2, 3, 4, 5, 6], [0, 1, 2, 3, 4, 5, 6, 7], [0, 1, 2, 3, 4, 5, 6, 7], [0, 1, 2, 3, 4, 5, 6, 7], [0, 1, 2, 3, 4, 5, 6, 7, 9, 10], [0, 1, 2, 3, 4, 5, 6, 7, 9, 10, 11], [0, 1, 2, 3, 4, 5, 6, 7, 9, 10, 11, 12], [0, 1, 2, 3, 4, 5, 6, 7, 8, 9, 10, 11, 12, 13], [0, 1, 2, 3, 4, 5, 6, 7, 8, 9, 10, 11, 12, 13, 14], [0, 1, 2, 3, 4, 5, 6, 7, 8, 9, 10, 11, 12, 13, 14, 15], [0, 1, 2, 3, 4, 5, 6, 7, 8, 9, 10, 11, 12, 13, 14, 15, 16], [0, 1, 2, 3, 4, 5, 6, 7, 8, 9, 10, 11, 12, 13, 14, 15, 16], [0, 1, 2, 3, 4, 5, 6, 7, 8, 9, 10, 11, 12, 13, 14, 15, 16, 17, 18], [0, 1, 2, 3, 4, 5, 6, 7, 8, 9, 10, 11, 12, 13, 14, 15, 16, 17, 18, 19], [0, 1, 2, 3, 4, 5, 6, 7, 8, 9, 10, 11, 12, 13, 14, 15, 16, 17, 18, 19, 20], [0, 1, 2, 3, 4, 5, 6, 7, 8, 9, 10, 11, 12, 13, 14, 15, 16, 17, 18, 19, 20, 21], [0, 1, 2, 3, 4, 5, 6, 7, 8, 9, 10, 11, 12, 13, 14, 15, 16], [0, 1, 2, 3, 4, 5, 6, 7, 8, 9, 10, 11, 12, 13, 14, 15, 16], [0, 1, 2, 3, 4, 5, 6, 7, 8, 9, 10, 11, 12, 13, 14, 15, 16, 23, 24], [0, 1, 2, 3, 4, 5, 6, 7, 8, 9, 10, 11, 12, 13, 14, 15, 16, 23, 24, 25], [0, 1, 2, 3, 4, 5, 6, 7, 8, 9, 10, 11, 12, 13, 14, 15, 16, 23, 24, 25, 26], [0, 1, 2, 3, 4, 5, 6, 7, 8, 9, 10, 11, 12, 13, 14, 15, 16, 23, 24, 25, 26, 27], [0, 1, 2, 3, 4, 5, 6, 7, 8, 9, 10, 11, 12, 13, 14, 15, 16, 17, 18, 19, 20, 21, 22, 23, 24, 25, 26, 27, 28], [0, 1, 2, 3, 4, 5, 6, 7, 8, 9, 10, 11, 12, 13, 14, 15, 16, 17, 18, 19, 20, 21, 22, 23, 24, 25, 26, 27, 28, 29], [0, 1, 2, 3, 4, 5, 6, 7, 8, 9, 10, 11, 12, 13, 14, 15, 16, 17, 18, 19, 20, 21, 22, 23, 24, 25, 26, 27, 28, 29, 30], [0, 1, 2, 3, 4, 5, 6, 7, 8, 9, 10, 11, 12, 13, 14, 15, 16, 17, 18, 19, 20, 21, 22, 23, 24, 25, 26, 27, 28, 29, 30, 31], [0, 1, 2, 3, 4, 5, 6, 7, 8, 9, 10, 11, 12, 13, 14, 15, 16, 17, 18, 19, 20, 21, 22, 23, 24, 25, 26, 27, 28, 29, 30, 31, 32], [0, 1, 2, 3, 4, 5, 6, 7, 8, 9, 10, 11, 12, 13, 14, 15, 16, 17, 18, 19, 20, 21, 22, 23, 24, 25, 26, 27, 28, 29, 30, 31, 32, 33], [0, 1, 2, 3, 4, 5, 6, 7, 8, 9, 10, 11, 12, 13, 14, 15, 16, 17, 18, 19, 20, 21, 22, 23, 24, 25, 26, 27, 28, 29, 30, 31, 32, 33, 34], [0, 1, 2, 3, 4, 5, 6, 7, 8, 9, 10, 11, 12, 13, 14, 15, 16, 17, 18, 19, 20, 21, 22, 23, 24, 25, 26, 27, 28, 29, 30, 31, 32, 33, 34, 35], [0, 1, 2, 3, 4, 5, 6, 7, 8, 9, 10, 11, 12, 13, 14, 15, 16, 17, 18, 19, 20, 21, 22, 23, 24, 25, 26, 27, 28, 29, 30, 31, 32, 33, 34, 35], [0, 1, 2, 3, 4, 5, 6, 7, 8, 9, 10, 11, 12, 13, 14, 15, 16, 17, 18, 19, 20, 21, 22, 23, 24, 25, 26, 27, 28, 29, 30, 31, 32, 33, 34, 35, 37], [0, 1, 2, 3, 4, 5, 6, 7, 8, 9, 10, 11, 12, 13, 14, 15, 16, 17, 18, 19, 20, 21, 22, 23, 24, 25, 26, 27, 28, 29, 30, 31, 32, 33, 34, 35, 36, 37, 38], [0, 1, 2, 3, 4, 5, 6, 7, 8, 9, 10, 11, 12, 13, 14, 15, 16, 17, 18, 19, 20, 21, 22, 23, 24, 25, 26, 27, 28, 29, 30, 31, 32, 33, 34, 35, 36, 37, 38, 39], [0, 1, 2, 3, 4, 5, 6, 7, 8, 9, 10, 11, 12, 13, 14, 15, 16, 17, 18, 19, 20, 21, 22, 23, 24, 25, 26, 27, 28, 29, 30, 31, 32, 33, 34, 35, 36, 37, 38, 39, 40], [0, 1, 2, 3, 4, 5, 6, 7, 8, 9, 10, 11, 12, 13, 14, 15, 16, 17, 18, 19, 20, 21, 22, 23, 24, 25, 26, 27, 28, 29, 30, 31, 32, 33, 34, 35], [0, 1, 2, 3, 4, 5, 6, 7, 8, 9, 10, 11, 12, 13, 14, 15, 16, 17, 18, 19, 20, 21, 22, 23, 24, 25, 26, 27, 28, 29, 30, 31, 32, 33, 34, 35], [0, 1, 2, 3, 4, 5, 6, 7, 8, 9, 10, 11, 12, 13, 14, 15, 16, 17, 18, 19, 20, 21, 22, 23, 24, 25, 26, 27, 28, 29, 30, 31, 32, 33, 34, 35, 42, 43], [0, 1, 2, 3, 4, 5, 6, 7, 8, 9, 10, 11, 12, 13, 14, 15, 16, 17, 18, 19, 20, 21, 22, 23, 24, 25, 26, 27, 28, 29, 30, 31, 32, 33, 34, 35, 42, 43, 44], [0, 1, 2, 3, 4, 5, 6, 7, 8, 9, 10, 11, 12, 13, 14, 15, 16, 17, 18, 19, 20, 21, 22, 23, 24, 25, 26, 27, 28, 29, 30, 31, 32, 33, 34, 35, 42, 43, 44, 45], [0, 1, 2, 3, 4, 5, 6, 7, 8, 9, 10, 11, 12, 13, 14, 15, 16, 17, 18, 19, 20, 21, 22, 23, 24, 25, 26, 27, 28, 29, 30, 31, 32, 33, 34, 35, 36, 37, 38, 39, 40, 41, 42, 43, 44, 45, 46], [0, 1, 2, 3, 4, 5, 6, 7, 8, 9, 10, 11, 12, 13, 14, 15, 16, 17, 18, 19, 20, 21, 22, 23, 24, 25, 26, 27, 28, 29, 30, 31, 32, 33, 34, 35, 36, 37, 38, 39, 40, 41, 42, 43, 44, 45, 46, 47], [0, 1, 2, 3, 4, 5, 6, 7, 8, 9, 10, 11, 12, 13, 14, 15, 16, 17, 18, 19, 20, 21, 22, 23, 24, 25, 26, 27, 28, 29, 30, 31, 32, 33, 34, 35, 36, 37, 38, 39, 40, 41, 42, 43, 44, 45, 46, 47, 48]] rfl (by kernel_rfl) ?_
                      refine qv_v (q_move rfl) ?_
                      refine qv_v (q_move rfl) ?_
                      refine qv_v (q_idxRdN (m := kx) Try.underlying46 sz52 rfl rfl hkl (Reads.row 0 rfl) (by rw [hzml]; omega)) ?_
                      refine qv_v (q_fldRd fo52_0 (by decide) rfl rfl) ?_
                      refine qv_v (q_loadRd Try.underlying3 rfl rfl (Reads.row 0 rfl) hp0) ?_
                      refine qv_v (q_move rfl) ?_
                      refine qv_v (q_as (v := .bool false) (q_leq_n Try.underlying3 rfl rfl) (by rw [decide_eq_false hv33])) ?_
                      refine qv_v (q_move rfl) ?_
                      refine qv_skip rfl ?_
                      refine qv_skip rfl ?_
                      refine qv_skip rfl ?_
                      refine qv_skip rfl ?_
                      refine qv_skip rfl ?_
                      refine qv_skip rfl ?_
                      refine qv_skip rfl ?_
                      refine qv_skip rfl ?_
                      refine qv_skip rfl ?_
                      refine qv_skip rfl ?_
                      refine qv_skip rfl ?_
                      refine qv_skip rfl ?_
                      refine qv_skip rfl ?_
                      refine qv_skip rfl ?_
                      refine qv_skip rfl ?_
                      refine qv_skip rfl ?_
                      refine qv_skip rfl ?_
                      refine qv_skip rfl ?_
                      refine qv_skip rfl ?_
                      refine qv_skip rfl ?_
                      refine qv_skip rfl ?_
                      refine qv_skip rfl ?_
                      refine qv_skip rfl ?_
                      first | (refine qv_v (q_pickT rfl rfl) ?_) | (refine qv_v (q_pickF rfl rfl) ?_)
                      refine qv_v (q_move rfl) ?_
                      refine qv_vg (rfl) (q_move rfl) ?_
                      refine qv_vg (rfl) (q_as (v := .bool false) (q_gtr_n (q := 0) Try.underlying3 rfl rfl) (by rw [decide_eq_false hq33])) ?_
                      refine qv_vg (rfl) (q_move rfl) ?_
                      refine qv_skip rfl ?_
                      refine qv_skip rfl ?_
                      refine qv_skip rfl ?_
                      refine qv_skip rfl ?_
                      refine qv_skip rfl ?_
                      refine qv_skip rfl ?_
                      refine qv_skip rfl ?_
                      refine qv_skip rfl ?_
                      refine qv_skip rfl ?_
                      refine qv_skip rfl ?_
                      refine qv_skip rfl ?_
                      refine qv_end ?_
                      refine VL.keep (Sub.cons (s := 0) rfl (Sub.cons (s := 1) rfl (Sub.cons (s := 5) rfl (Sub.cons (s := 6) rfl (Sub.cons (s := 12) rfl (Sub.cons (s := 13) rfl (Sub.cons (s := 14) rfl (Sub.cons (s := 17) rfl (Sub.cons (s := 18) rfl (Sub.cons (s := 137) rfl (Sub.cons (s := 172) rfl (Sub.cons (s := 175) rfl (Sub.cons (s := 181) rfl (Sub.cons (s := 186) rfl (Sub.nil _))))))))))))))) ?_
                      refine vl_skip rfl rfl ?_
                      first | (refine vl_vg rfl (q_pickT rfl rfl) rfl ?_) | (refine vl_vg rfl (q_pickF rfl rfl) rfl ?_)
                      first | (refine vl_v (q_pickT rfl rfl) rfl ?_) | (refine vl_v (q_pickF rfl rfl) rfl ?_)
                      refine vl_nil ?_
                      refine (qn_n (th_n ?_))
                      refine VC_no (rfl) ?_
                      refine VC_skip ?_
                      refine (bl_n (th_n ?_))
                      refine VC_region ?_
                      refine vl_v (q_move rfl) rfl ?_
                      first | (refine vl_v (q_add_n (q := 1) rfl rfl (by omega)) rfl ?_) | (refine vl_v (q_add_i rfl rfl (by omega) (by omega)) rfl ?_)
                      refine vl_v (q_assign rfl) rfl ?_
                      refine vl_nil ?_
                      refine (th_n ?_)
                      refine ⟨kx + 1, by omega, by omega, (Sub.cons (s := 0) rfl (Sub.cons (s := 1) rfl (Sub.cons (s := 5) rfl (Sub.cons (s := 6) rfl (Sub.cons (s := 12) rfl (Sub.cons (s := 13) rfl (Sub.cons (s := 14) rfl (Sub.cons (s := 17) rfl (Sub.cons (s := 18) rfl (Sub.nil _)))))))))), fun w H => H⟩
                · skip
                  let z : TOn := ⟨ix + 1, A2, c2, ms2, gone.set d true⟩
                  have hz : z.ok i l.length many G1 := hz0
                  refine VC_exit ?_
                  refine (th_x (th_x (bl_xs (bl_n (th_n ?_)))))
                  refine VC_region ?_
                  refine vl_v (q_move rfl) rfl ?_
                  first | (refine vl_v (q_add_n (q := 1) rfl rfl (by omega)) rfl ?_) | (refine vl_v (q_add_i rfl rfl (by omega) (by omega)) rfl ?_)
                  refine vl_v (q_assign rfl) rfl ?_
                  refine vl_nil ?_
                  refine (th_n ?_)
                  refine ⟨z, hz, by show l.length - (ix + 1) < l.length - ix; omega, (Sub.cons (s := 0) rfl (Sub.cons (s := 1) rfl (Sub.cons (s := 5) rfl (Sub.cons (s := 6) rfl (Sub.cons (s := 12) rfl (Sub.cons (s := 13) rfl (Sub.cons (s := 14) rfl (Sub.nil _)))))))), fun w H => by first | exact H | exact dropO H⟩
              · skip
                refine VC_region ?_
                have huk : u = (5, mids ms) := hu ▸ (by unfold ackM; rw [if_neg (by have := hoo.nm; omega), if_neg hr22])
                subst huk
                dsimp only at hm2 ⊢
                have hga : (boolsC gone)[d]? = some (.bool true) := boolsC_at (by rw [hgn.at_ d hd1 hd2, decide_eq_false hr22]; rfl)
                have hml2 : ms.length = ms2.length := by rw [← mids_length ms2, hm2, mids_length]
                have hz0 : (⟨ix + 1, A2, c2, ms2, gone.set d true⟩ : TOn).ok i l.length many G1 := ⟨hil, by show OnceOk i many (mids ms2); rw [hm2]; exact hoo, by show Gone i (mids ms2) _; rw [hm2]; exact hgn.step hd1 hd2 (fun x => ⟨fun hx => ⟨hx, fun h => hr22 (h ▸ hx)⟩, fun hx => hx.1⟩), hg.less hsub⟩
                refine vl_v (q_move rfl) rfl ?_
                refine vl_v (q_as (v := .bool false) (q_eql_k Try.underlying41 rfl rfl) (by simp)) rfl ?_
                refine vl_v (q_move rfl) rfl ?_
                refine vl_v (q_move rfl) rfl ?_
                refine vl_v (q_idxS0 (m := d) Try.underlying50 sz4 rfl rfl (by omega) (by rw [Nat.mul_one, Nat.zero_add])) rfl ?_
                refine vl_v (q_load 0 Try.underlying4 rfl rfl rfl hga) rfl ?_
                refine vl_v (q_as (v := .bool false) (q_eqBo Try.underlying4 rfl rfl) (by rfl)) rfl ?_
                refine vl_v (q_move rfl) rfl ?_
                refine vl_vg rfl (q_move rfl) rfl ?_
                refine vl_vg rfl (q_as (v := .bool true) (q_neq_k Try.underlying41 rfl rfl) (by simp)) rfl ?_
                refine vl_vg rfl (q_move rfl) rfl ?_
                refine vl_vg rfl (q_move rfl) rfl ?_
                refine vl_vg rfl (q_as (v := .bool false) (q_neq_k Try.underlying41 rfl rfl) (by simp)) rfl ?_
                first | (refine vl_vg rfl (q_pickT rfl rfl) rfl ?_) | (refine vl_vg rfl (q_pickF rfl rfl) rfl ?_)
                first | (refine vl_v (q_pickT rfl rfl) rfl ?_) | (refine vl_v (q_pickF rfl rfl) rfl ?_)
                refine vl_nil ?_
                refine (th_n ?_)
                refine VC_no (rfl) ?_
                refine VC_skip ?_
                refine (th_n ?_)
                refine VC_seq ?_
                refine VC_seq ?_
                refine VC_region ?_
                refine vl_v (q_move rfl) rfl ?_
                refine vl_v (q_as (v := .bool false) (q_eql_k Try.underlying41 rfl rfl) (by simp)) rfl ?_
                refine vl_nil ?_
                refine (th_n ?_)
                refine VC_no (rfl) ?_
                refine VC_skip ?_
                refine (th_n ?_)
                refine VC_seq ?_
                refine VC_region ?_
                rw [hml2]
                clear hAck
                refine vl_v (q_move rfl) rfl ?_
                refine vl_v (q_move rfl) rfl ?_
                refine vl_v (q_idxS0 (m := d) Try.underlying50 sz4 rfl rfl (by omega) (by rw [Nat.mul_one, Nat.zero_add])) rfl ?_
                refine l_store1 0 rfl rfl rfl sz4 rfl hgl ?_
                simp only [List.set_cons_zero]
                rw [boolsC_set]
                refine vl_nil ?_
                refine (th_n ?_)
                refine VC_seq ?_
                refine VC_region ?_
                obtain ⟨_, hoo2, hgn2, hg2⟩ := (fun h => h : ∀ {p : Prop}, p → p) hz0
                dsimp only at hoo2 hgn2 hg2
                have hok2 : ∀ y ∈ ms2, y.1.X.body.length ≤ 1000 ∧ y.1.ok := fun y hy => hoo2.ok _ (List.mem_map.2 ⟨y, hy, rfl⟩)
                have h82 : ms2.length ≤ 8 := by rw [← mids_length]; exact hoo2.l8
                refine vl_v (q_move rfl) rfl ?_
                refine l_call (F := fun v L' => ∃ Az cz zs, v = .slice Az ms2.length cz ∧ mids zs = mids ms2 ∧ L' = [.row 52 138 (.slice Az ms2.length cz) ms2.length (mailsC zs), .blk b81 4 (boolsC (gone.set d true)), .blk x20 57 [.slice A2 ms2.length c2, vN many], .row 52 138 (.slice A2 ms2.length c2) ms2.length (mailsC ms2)] ++ (bods zs ++ G1)) Try.func14 rfl rfl rfl (fun w1 H1 => (list_calls w1 x20 c2 many A2 ms2 (fun y hy => (hok2 y hy).2) (fun y hy => (hok2 y hy).1) h82 (Reads.blk 1 rfl w1 H1) (Reads.row 2 rfl w1 H1) (hg2 w1 (fun g hg => H1.ok g (List.mem_append_right [_, _, _] hg)))).mono fun e w' h => ?_) rfl ?_
                · obtain ⟨z9, h1, h2, h3⟩ := h
                  exact ⟨_, _, h1, ⟨_, _, _, rfl, h2, rfl⟩, (H1.join h3).perm (mvL [_, _, _] _ _ _)⟩
                rintro v L' ⟨AM, cM, zs, rfl, hzs, rfl⟩
                simp only [List.cons_append, List.nil_append]
                have hzl : ms2.length = zs.length := by rw [← mids_length ms2, ← hzs, mids_length]
                have hzm : ∀ y ∈ zs, y.1 ∈ mids ms2 := fun y hy => by rw [← hzs]; exact List.mem_map.2 ⟨y, hy, rfl⟩
                have hzok : ∀ y ∈ zs, y.1.ok := fun y hy => (hoo2.ok _ (hzm y hy)).2
                have hzml := mailsC_length hzok
                have hup : (zs.map fun y => y.1.id).Pairwise (· < ·) := by have := hoo2.ups.up; rw [← hzs, mids, List.map_map] at this; exact this
                have hrg : ∀ y ∈ zs, 1 ≤ y.1.id ∧ y.1.id ≤ (many : Int) := fun y hy => hoo2.ups.rng _ (hzm y hy)
                refine vl_v (q_assign rfl) rfl ?_
                refine vl_nil ?_
                refine (th_n ?_)
                refine VC_seq ?_
                refine VC_seq ?_
                refine VC_region ?_
                refine vl_v (q_move rfl) rfl ?_
                refine vl_v (q_lenS Try.underlying46 rfl) rfl ?_
                refine vl_v (q_move rfl) rfl ?_
                refine vl_v (q_as (v := .bool false) (q_neq_n Try.underlying3 rfl rfl) (by rw [decide_eq_true rfl]; rfl)) rfl ?_
                refine vl_nil ?_
                refine (th_n ?_)
                refine VC_no (rfl) ?_
                refine VC_skip ?_
                refine (th_n ?_)
                refine VC_seq ?_
                refine VC_region ?_
                refine vl_v (q_assign rfl) rfl ?_
                refine vl_nil ?_
                refine (th_n ?_)
                refine VC_block ?_
                refine VC_loop (ι := Nat) (fun kx => kx ≤ ms2.length) (fun kx => [(0, vN i), (1, .slice A l.length c), (5, .bool true), (6, vP x20 0), (12, .slice (some ⟨b81, 0, none⟩) (i + 2) (i + 2)), (13, vN ms2.length), (14, vN ix), (17, .slice AM ms2.length cM), (18, vN kx)]) (fun kx => .row 52 138 (.slice AM ms2.length cM) ms2.length (mailsC zs) :: .blk b81 4 (boolsC (gone.set d true)) :: .blk x20 57 [.slice A2 ms2.length c2, vN many] :: .row 52 138 (.slice A2 ms2.length c2) ms2.length (mailsC ms2) :: (bods zs ++ G1)) (fun kx => ms2.length - kx) 0 (by omega) (Sub.cons (s := 0) rfl (Sub.cons (s := 1) rfl (Sub.cons (s := 5) rfl (Sub.cons (s := 6) rfl (Sub.cons (s := 12) rfl (Sub.cons (s := 13) rfl (Sub.cons (s := 14) rfl (Sub.cons (s := 17) rfl (Sub.cons (s := 18) rfl (Sub.nil _)))))))))) (fun w H => H) ?_
                rintro kx hp
                refine VC_seq ?_
                refine VC_seq ?_
                refine VC_region ?_
                refine vl_v (q_move rfl) rfl ?_
                refine vl_v (q_move rfl) rfl ?_
                refine vl_v (q_lenS Try.underlying46 rfl) rfl ?_
                first | (refine vl_v (q_lss_n Try.underlying3 rfl rfl) rfl ?_) | (refine vl_v (q_lss_k Try.underlying3 rfl rfl) rfl ?_)
                refine vl_nil ?_
                refine (th_n ?_)
                refine VC_cond rfl (fun ht137 => ?_) (fun ht137 => ?_)
                · skip
                  have hkl := of_decide_eq_true ht137
                  obtain ⟨y, hy⟩ : ∃ y, zs[kx]? = some y := ⟨_, List.getElem?_eq_getElem (by omega)⟩
                  have hym := List.mem_of_getElem? hy
                  have hyr := hrg y hym
                  obtain ⟨e, he⟩ := Int.eq_ofNat_of_zero_le (show 0 ≤ y.1.id by omega)
                  have hpt := mailsC_part hzok hy
                  have hp0 : (mailsC zs)[kx * 138 + 0]? = some (vN e) := by rw [mget_in hpt mailV_id (by omega), he]
                  have hp73 : (mailsC zs)[kx * 138 + 73]? = some (vI y.1.s.ti) := mget_in hpt (mailV_time (hzok y hym)) (by omega)
                  refine VC_skip ?_
                  refine (th_n ?_)
                  refine VC_seq ?_
                  refine VC_block ?_
                  refine VC_seq ?_
                  by_cases hq33 : 0 < kx
                  · skip
                    obtain ⟨y', hy'⟩ : ∃ y, zs[kx - 1]? = some y := ⟨_, List.getElem?_eq_getElem (by omega)⟩
                    have hyr' := hrg y' (List.mem_of_getElem? hy')
                    obtain ⟨e', he'⟩ := Int.eq_ofNat_of_zero_le (show 0 ≤ y'.1.id by omega)
                    have hp0' : (mailsC zs)[(kx - 1) * 138 + 0]? = some (vN e') := by rw [mget_in (mailsC_part hzok hy') mailV_id (by omega), he']
                    have hlt : e' < e := by
                      have h1 := (List.pairwise_iff_getElem.1 hup) (kx - 1) kx (by rw [List.length_map]; omega) (by rw [List.length_map]; omega) (by omega)
                      rw [List.getElem_map, List.getElem_map] at h1
                      rw [(List.getElem?_eq_some_iff.1 hy).2, (List.getElem?_eq_some_iff.1 hy').2, he, he'] at h1
                      omega
                    by_cases hv33 : e ≤ i
                    · skip
                      obtain ⟨y', hy'⟩ : ∃ y, zs[kx - 1]? = some y := ⟨_, List.getElem?_eq_getElem (by omega)⟩
                      have hyr' := hrg y' (List.mem_of_getElem? hy')
                      obtain ⟨e', he'⟩ := Int.eq_ofNat_of_zero_le (show 0 ≤ y'.1.id by omega)
                      have hp0' : (mailsC zs)[(kx - 1) * 138 + 0]? = some (vN e') := by rw [mget_in (mailsC_part hzok hy') mailV_id (by omega), he']
                      have hlt : e' < e := by
                        have h1 := (List.pairwise_iff_getElem.1 hup) (kx - 1) kx (by rw [List.length_map]; omega) (by rw [List.length_map]; omega) (by omega)
                        rw [List.getElem_map, List.getElem_map] at h1
                        rw [(List.getElem?_eq_some_iff.1 hy).2, (List.getElem?_eq_some_iff.1 hy').2, he, he'] at h1
                        omega
                      have hei : (boolsC (gone.set d true))[e]? = some (.bool false) := boolsC_at (by rw [hgn2.at_ e (by omega) hv33, decide_eq_true (List.mem_map.2 ⟨y.1, hzm y hym, he⟩)]; rfl)
                      have hti : y.1.s.ti = ((e - 1 : Nat) : Int) := by have := hoo2.ti _ (hzm y hym) (by rw [he]; omega); omega
                      rw [hti] at hp73
                      have hgm : 1 ≤ e ∧ e ≤ i := by omega
                      refine VC_drawV 47 [[], [], [0, 1], [2], [3], [], [4, 5], [6], [7], [7], [7], [9, 10, 7], [11, 7], [12, 7], [8, 13, 7], [14, 7], [15, 7], [16], [16], [17, 18, 16], [19, 16], [20, 16], [21, 16], [16], [16], [23, 24, 16], [25, 16], [26, 16], [27, 16], [22, 28, 16], [16, 29, 7], [7, 30], [31, 16], [32], [33, 32], [34, 32], [35], [35], [37, 35], [36, 38, 35], [39, 35], [40, 35], [35], [35], [42, 43, 35], [44, 35], [45, 35], [41, 46, 35], [35, 47, 32], [32, 48]] [[], [], [0, 1], [0, 1, 2], [0, 1, 2, 3], [], [0, 1, 2, 3, 4, 5], [0, 1, 2, 3, 4, 5, 6], [0, 1, 2, 3, 4, 5, 6, 7], [0, 1, 2, 3, 4, 5, 6, 7], [0, 1, 2, 3, 4, 5, 6, 7], [0, 1, 2, 3, 4, 5, 6, 7, 9, 10], [0, 1, 2, 3, 4, 5, 6, 7, 9, 10, 11], [0, 1, 2, 3, 4, 5, 6, 7, 9, 10, 11, 12], [0, 1, 2, 3, 4, 5, 6, 7, 8, 9, 10, 11, 12, 13], [0, 1, 2, 3, 4, 5, 6, 7, 8, 9, 10, 11, 12, 13, 14], [0, 1, 2, 3, 4, 5, 6, 7, 8, 9, 10, 11, 12, 13, 14, 15], [0, 1, 2, 3, 4, 5, 6, 7, 8, 9, 10, 11, 12, 13, 14, 15, 16], [0, 1, 2, 3, 4, 5, 6, 7, 8, 9, 10, 11, 12, 13, 14, 15, 16], [0, 1, 2, 3, 4, 5, 6, 7, 8, 9, 10, 11, 12, 13, 14, 15, 16, 17, 18], [0, 1, 2, 3, 4, 5, 6, 7, 8, 9, 10, 11, 12, 13, 14, 15, 16, 17, 18, 19], [0, 1, 2, 3, 4, 5, 6, 7, 8, 9, 10, 11, 12, 13, 14, 15, 16, 17, 18, 19, 20], [0, 1, 2, 3, 4, 5, 6, 7, 8, 9, 10, 11, 12, 13, 14, 15, 16, 17, 18, 19, 20, 21], [0, 1, 2, 3, 4, 5, 6, 7, 8, 9, 10, 11, 12, 13, 14, 15, 16], [0, 1, 2, 3, 4, 5, 6, 7, 8, 9, 10, 11, 12, 13, 14, 15, 16], [0, 1, 2, 3, 4, 5, 6, 7, 8, 9, 10, 11, 12, 13, 14, 15, 16, 23, 24], [0, 1, 2, 3, 4, 5, 6, 7, 8, 9, 10, 11, 12, 13, 14, 15, 16, 23, 24, 25], [0, 1, 2, 3, 4, 5, 6, 7, 8, 9, 10, 11, 12, 13, 14, 15, 16, 23, 24, 25, 26], [0, 1, 2, 3, 4, 5, 6, 7, 8, 9, 10, 11, 12, 13, 14, 15, 16, 23, 24, 25, 26, 27], [0, 1, 2, 3, 4, 5, 6, 7, 8, 9, 10, 11, 12, 13, 14, 15, 16, 17, 18, 19, 20, 21, 22, 23, 24, 25, 26, 27, 28], [0, 1, 2, 3, 4, 5, 6, 7, 8, 9, 10, 11, 12, 13, 14, 15, 16, 17, 18, 19, 20, 21, 22, 23, 24, 25, 26, 27, 28, 29], [0, 1, 2, 3, 4, 5, 6, 7, 8, 9, 10, 11, 12, 13, 14, 15, 16, 17, 18, 19, 20, 21, 22, 23, 24, 25, 26, 27, 28, 29, 30], [0, 1, 2, 3, 4, 5, 6, 7, 8, 9, 10, 11, 12, 13, 14, 15, 16, 17, 18, 19, 20, 21, 22, 23, 24, 25, 26, 27, 28, 29, 30, 31], [0, 1, 2, 3, 4, 5, 6, 7, 8, 9, 10, 11, 12, 13, 14, 15, 16, 17, 18, 19, 20, 21, 22, 23, 24, 25, 26, 27, 28, 29, 30, 31, 32], [0, 1, 2, 3, 4, 5, 6, 7, 8, 9, 10, 11, 12, 13, 14, 15, 16, 17, 18, 19, 20, 21, 22, 23, 24, 25, 26, 27, 28, 29, 30, 31, 32, 33], [0, 1, 2, 3, 4, 5, 6, 7, 8, 9, 10, 11, 12, 13, 14, 15, 16, 17, 18, 19, 20, 21, 22, 23, 24, 25, 26, 27, 28, 29, 30, 31, 32, 33, 34], [0, 1, 2, 3, 4, 5, 6, 7, 8, 9, 10, 11, 12, 13, 14, 15, 16, 17, 18, 19, 20, 21, 22, 23, 24, 25, 26, 27, 28, 29, 30, 31, 32, 33, 34, 35], [0, 1, 2, 3, 4, 5, 6, 7, 8, 9, 10, 11, 12, 13, 14, 15, 16, 17, 18, 19, 20, 21, 22, 23, 24, 25, 26, 27, 28, 29, 30, 31, 32, 33, 34, 35], [0, 1, 2, 3, 4, 5, 6, 7, 8, 9, 10, 11, 12, 13, 14, 15, 16, 17, 18, 19, 20, 21, 22, 23, 24, 25, 26, 27, 28, 29, 30, 31, 32, 33, 34, 35, 37], [0, 1, 2, 3, 4, 5, 6, 7, 8, 9, 10, 11, 12, 13, 14, 15, 16, 17, 18, 19, 20, 21, 22, 23, 24, 25, 26, 27, 28, 29, 30, 31, 32, 33, 34, 35, 36, 37, 38], [0, 1, 2, 3, 4, 5, 6, 7, 8, 9, 10, 11, 12, 13, 14, 15, 16, 17, 18, 19, 20, 21, 22, 23, 24, 25, 26, 27, 28, 29, 30, 31, 32, 33, 34, 35, 36, 37, 38, 39], [0, 1, 2, 3, 4, 5, 6, 7, 8, 9, 10, 11, 12, 13, 14, 15, 16, 17, 18, 19, 20, 21, 22, 23, 24, 25, 26, 27, 28, 29, 30, 31, 32, 33, 34, 35, 36, 37, 38, 39, 40], [0, 1, 2, 3, 4, 5, 6, 7, 8, 9, 10, 11, 12, 13, 14, 15, 16, 17, 18, 19, 20, 21, 22, 23, 24, 25, 26, 27, 28, 29, 30, 31, 32, 33, 34, 35], [0, 1, 2, 3, 4, 5, 6, 7, 8, 9, 10, 11, 12, 13, 14, 15, 16, 17, 18, 19, 20, 21, 22, 23, 24, 25, 26, 27, 28, 29, 30, 31, 32, 33, 34, 35], [0, 1, 2, 3, 4, 5, 6, 7, 8, 9, 10, 11, 12, 13, 14, 15, 16, 17, 18, 19, 20, 21, 22, 23, 24, 25, 26, 27, 28, 29, 30, 31, 32, 33, 34, 35, 42, 43], [0, 1, 2, 3, 4, 5, 6, 7, 8, 9, 10, 11, 12, 13, 14, 15, 16, 17, 18, 19, 20, 21, 22, 23, 24, 25, 26, 27, 28, 29, 30, 31, 32, 33, 34, 35, 42, 43, 44], [0, 1, 2, 3, 4, 5, 6, 7, 8, 9, 10, 11, 12, 13, 14, 15, 16, 17, 18, 19, 20, 21, 22, 23, 24, 25, 26, 27, 28, 29, 30, 31, 32, 33, 34, 35, 42, 43, 44, 45], [0, 1, 2, 3, 4, 5, 6, 7, 8, 9, 10, 11, 12, 13, 14, 15, 16, 17, 18, 19, 20, 21, 22, 23, 24, 25, 26, 27, 28, 29, 30, 31, 32, 33, 34, 35, 36, 37, 38, 39, 40, 41, 42, 43, 44, 45, 46], [0, 1, 2, 3, 4, 5, 6, 7, 8, 9, 10, 11, 12, 13, 14, 15, 16, 17, 18, 19, 20, 21, 22, 23, 24, 25, 26, 27, 28, 29, 30, 31, 32, 33, 34, 35, 36, 37, 38, 39, 40, 41, 42, 43, 44, 45, 46, 47], [0, 1, 2, 3, 4, 5, 6, 7, 8, 9, 10, 11, 12, 13, 14, 15, 16, 17, 18, 19, 20, 21, 22, 23, 24, 25, 26, 27, 28, 29, 30, 31, 32, 33, 34, 35, 36, 37, 38, 39, 40, 41, 42, 43, 44, 45, 46, 47, 48]] rfl (by kernel_rfl) ?_
                      refine qv_v (q_move rfl) ?_
                      refine qv_v (q_move rfl) ?_
                      refine qv_v (q_idxRdN (m := kx) Try.underlying46 sz52 rfl rfl hkl (Reads.row 0 rfl) (by rw [hzml]; omega)) ?_
                      refine qv_v (q_fldRd fo52_0 (by decide) rfl rfl) ?_
                      refine qv_v (q_loadRd Try.underlying3 rfl rfl (Reads.row 0 rfl) hp0) ?_
                      refine qv_v (q_move rfl) ?_
                      refine qv_v (q_as (v := .bool true) (q_leq_n Try.underlying3 rfl rfl) (by rw [decide_eq_true hv33])) ?_
                      refine qv_v (q_move rfl) ?_
                      refine qv_vg (rfl) (q_move rfl) ?_
                      refine qv_vg (rfl) (q_move rfl) ?_
                      refine qv_vg (rfl) (q_move rfl) ?_
                      refine qv_vg (rfl) (q_idxRdN (m := kx) Try.underlying46 sz52 rfl rfl hkl (Reads.row 0 rfl) (by rw [hzml]; omega)) ?_
                      refine qv_vg (rfl) (q_fldRd fo52_0 (by decide) rfl rfl) ?_
                      refine qv_vg (rfl) (q_loadRd Try.underlying3 rfl rfl (Reads.row 0 rfl) hp0) ?_
                      refine qv_vg (rfl) (q_idxS0 (m := e) Try.underlying50 sz4 rfl rfl (by omega) (by rw [Nat.mul_one, Nat.zero_add])) ?_
                      refine qv_vg (rfl) (q_load 1 Try.underlying4 rfl rfl rfl hei) ?_
                      refine qv_vg (rfl) (q_move rfl) ?_
                      refine qv_vg (rfl) (q_move rfl) ?_
                      refine qv_vg (rfl) (q_move rfl) ?_
                      refine qv_vg (rfl) (q_idxRdN (m := kx) Try.underlying46 sz52 rfl rfl hkl (Reads.row 0 rfl) (by rw [hzml]; omega)) ?_
                      refine qv_vg (rfl) (q_fldRd fo52_2 (by decide) rfl rfl) ?_
                      refine qv_vg (rfl) (q_fldRd fo38_3 (by decide) rfl rfl) ?_
                      refine qv_vg (rfl) (q_loadRd Try.underlying3 rfl rfl (Reads.row 0 rfl) hp73) ?_
                      refine qv_vg (rfl) (q_move rfl) ?_
                      refine qv_vg (rfl) (q_move rfl) ?_
                      refine qv_vg (rfl) (q_idxRdN (m := kx) Try.underlying46 sz52 rfl rfl hkl (Reads.row 0 rfl) (by rw [hzml]; omega)) ?_
                      refine qv_vg (rfl) (q_fldRd fo52_0 (by decide) rfl rfl) ?_
                      refine qv_vg (rfl) (q_loadRd Try.underlying3 rfl rfl (Reads.row 0 rfl) hp0) ?_
                      first | (refine qv_vg (rfl) (q_sub_n (q := 1) rfl rfl (by omega) (by omega)) ?_) | (refine qv_vg (rfl) (q_sub_i rfl rfl (by omega) (by omega)) ?_)
                      refine qv_vg (rfl) (q_as (v := .bool false) (q_neq_n Try.underlying3 rfl rfl) (by rw [decide_eq_true rfl]; rfl)) ?_
                      first | (refine qv_vg (rfl) (q_pickT rfl rfl) ?_) | (refine qv_vg (rfl) (q_pickF rfl rfl) ?_)
                      first | (refine qv_v (q_pickT rfl rfl) ?_) | (refine qv_v (q_pickF rfl rfl) ?_)
                      refine qv_v (q_move rfl) ?_
                      refine qv_vg (rfl) (q_move rfl) ?_
                      refine qv_vg (rfl) (q_as (v := .bool true) (q_gtr_n (q := 0) Try.underlying3 rfl rfl) (by rw [decide_eq_true hq33])) ?_
                      refine qv_vg (rfl) (q_move rfl) ?_
                      refine qv_vg (rfl) (q_move rfl) ?_
                      refine qv_vg (rfl) (q_move rfl) ?_
                      first | (refine qv_vg (rfl) (q_sub_n (q := 1) rfl rfl (by omega) (by omega)) ?_) | (refine qv_vg (rfl) (q_sub_i rfl rfl (by omega) (by omega)) ?_)
                      refine qv_vg (rfl) (q_idxRdN (m := kx - 1) Try.underlying46 sz52 rfl rfl (by omega) (Reads.row 0 rfl) (by rw [hzml]; omega)) ?_
                      refine qv_vg (rfl) (q_fldRd fo52_0 (by decide) rfl rfl) ?_
                      refine qv_vg (rfl) (q_loadRd Try.underlying3 rfl rfl (Reads.row 0 rfl) hp0') ?_
                      refine qv_vg (rfl) (q_move rfl) ?_
                      refine qv_vg (rfl) (q_move rfl) ?_
                      refine qv_vg (rfl) (q_idxRdN (m := kx) Try.underlying46 sz52 rfl rfl hkl (Reads.row 0 rfl) (by rw [hzml]; omega)) ?_
                      refine qv_vg (rfl) (q_fldRd fo52_0 (by decide) rfl rfl) ?_
                      refine qv_vg (rfl) (q_loadRd Try.underlying3 rfl rfl (Reads.row 0 rfl) hp0) ?_
                      refine qv_end ?_
                      refine VL.keep (Sub.cons (s := 0) rfl (Sub.cons (s := 1) rfl (Sub.cons (s := 5) rfl (Sub.cons (s := 6) rfl (Sub.cons (s := 12) rfl (Sub.cons (s := 13) rfl (Sub.cons (s := 14) rfl (Sub.cons (s := 17) rfl (Sub.cons (s := 18) rfl (Sub.cons (s := 137) rfl (Sub.cons (s := 172) rfl (Sub.cons (s := 175) rfl (Sub.cons (s := 181) rfl (Sub.cons (s := 186) rfl (Sub.nil _))))))))))))))) ?_
                      refine vl_vg rfl (q_as (v := .bool false) (q_geq_n Try.underlying3 rfl rfl) (by rw [decide_eq_false (by omega)])) rfl ?_
                      first | (refine vl_vg rfl (q_pickT rfl rfl) rfl ?_) | (refine vl_vg rfl (q_pickF rfl rfl) rfl ?_)
                      first | (refine vl_v (q_pickT rfl rfl) rfl ?_) | (refine vl_v (q_pickF rfl rfl) rfl ?_)
                      refine vl_nil ?_
                      refine (qn_n (th_n ?_))
                      refine VC_no (rfl) ?_
                      refine VC_skip ?_
                      refine (bl_n (th_n ?_))
                      refine VC_region ?_
                      refine vl_v (q_move rfl) rfl ?_
                      first | (refine vl_v (q_add_n (q := 1) rfl rfl (by omega)) rfl ?_) | (refine vl_v (q_add_i rfl rfl (by omega) (by omega)) rfl ?_)
                      refine vl_v (q_assign rfl) rfl ?_
                      refine vl_nil ?_
                      refine (th_n ?_)
                      refine ⟨kx + 1, by omega, by omega, (Sub.cons (s := 0) rfl (Sub.cons (s := 1) rfl (Sub.cons (s := 5) rfl (Sub.cons (s := 6) rfl (Sub.cons (s := 12) rfl (Sub.cons (s := 13) rfl (Sub.cons (s := 14) rfl (Sub.cons (s := 17) rfl (Sub.cons (s := 18) rfl (Sub.nil _)))))))))), fun w H => H⟩
                    · skip
                      obtain ⟨y', hy'⟩ : ∃ y, zs[kx - 1]? = some y := ⟨_, List.getElem?_eq_getElem (by omega)⟩
                      have hyr' := hrg y' (List.mem_of_getElem? hy')
                      obtain ⟨e', he'⟩ := Int.eq_ofNat_of_zero_le (show 0 ≤ y'.1.id by omega)
                      have hp0' : (mailsC zs)[(kx - 1) * 138 + 0]? = some (vN e') := by rw [mget_in (mailsC_part hzok hy') mailV_id (by omega), he']
                      have hlt : e' < e := by
                        have h1 := (List.pairwise_iff_getElem.1 hup) (kx - 1) kx (by rw [List.length_map]; omega) (by rw [List.length_map]; omega) (by omega)
                        rw [List.getElem_map, List.getElem_map] at h1
                        rw [(List.getElem?_eq_some_iff.1 hy).2, (List.getElem?_eq_some_iff.1 hy').2, he, he'] at h1
                        omega
                      refine VC_drawV 47 [[], [], [0, 1], [2], [3], [], [4, 5], [6], [7], [7], [7], [9, 10, 7], [11, 7], [12, 7], [8, 13, 7], [14, 7], [15, 7], [16], [16], [17, 18, 16], [19, 16], [20, 16], [21, 16], [16], [16], [23, 24, 16], [25, 16], [26, 16], [27, 16], [22, 28, 16], [16, 29, 7], [7, 30], [31, 16], [32], [33, 32], [34, 32], [35], [35], [37, 35], [36, 38, 35], [39, 35], [40, 35], [35], [35], [42, 43, 35], [44, 35], [45, 35], [41, 46, 35], [35, 47, 32], [32, 48]] [[], [], [0, 1], [0, 1, 2], [0, 1, 2, 3], [], [0, 1, 2, 3, 4, 5], [0, 1, 2, 3, 4, 5, 6], [0, 1, 2, 3, 4, 5, 6, 7], [0, 1, 2, 3, 4, 5, 6, 7], [0, 1, 2, 3, 4, 5, 6, 7], [0, 1, 2, 3, 4, 5, 6, 7, 9, 10], [0, 1, 2, 3, 4, 5, 6, 7, 9, 10, 11], [0, 1, 2, 3, 4, 5, 6, 7, 9, 10, 11, 12], [0, 1, 2, 3, 4, 5, 6, 7, 8, 9, 10, 11, 12, 13], [0, 1, 2, 3, 4, 5, 6, 7, 8, 9, 10, 11, 12, 13, 14], [0, 1, 2, 3, 4, 5, 6, 7, 8, 9, 10, 11, 12, 13, 14, 15], [0, 1, 2, 3, 4, 5, 6, 7, 8, 9, 10, 11, 12, 13, 14, 15, 16], [0, 1, 2, 3, 4, 5, 6, 7, 8, 9, 10, 11, 12, 13, 14, 15, 16], [0, 1, 2, 3, 4, 5, 6, 7, 8, 9, 10, 11, 12, 13, 14, 15, 16, 17, 18], [0, 1, 2, 3, 4, 5, 6, 7, 8, 9, 10, 11, 12, 13, 14, 15, 16, 17, 18, 19], [0, 1, 2, 3, 4, 5, 6, 7, 8, 9, 10, 11, 12, 13, 14, 15, 16, 17, 18, 19, 20], [0, 1, 2, 3, 4, 5, 6, 7, 8, 9, 10, 11, 12, 13, 14, 15, 16, 17, 18, 19, 20, 21], [0, 1, 2, 3, 4, 5, 6, 7, 8, 9, 10, 11, 12, 13, 14, 15, 16], [0, 1, 2, 3, 4, 5, 6, 7, 8, 9, 10, 11, 12, 13, 14, 15, 16], [0, 1, 2, 3, 4, 5, 6, 7, 8, 9, 10, 11, 12, 13, 14, 15, 16, 23, 24], [0, 1, 2, 3, 4, 5, 6, 7, 8, 9, 10, 11, 12, 13, 14, 15, 16, 23, 24, 25], [0, 1, 2, 3, 4, 5, 6, 7, 8, 9, 10, 11, 12, 13, 14, 15, 16, 23, 24, 25, 26], [0, 1, 2, 3, 4, 5, 6, 7, 8, 9, 10, 11, 12, 13, 14, 15, 16, 23, 24, 25, 26, 27], [0, 1, 2, 3, 4, 5, 6, 7, 8, 9, 10, 11, 12, 13, 14, 15, 16, 17, 18, 19, 20, 21, 22, 23, 24, 25, 26, 27, 28], [0, 1, 2, 3, 4, 5, 6, 7, 8, 9, 10, 11, 12, 13, 14, 15, 16, 17, 18, 19, 20, 21, 22, 23, 24, 25, 26, 27, 28, 29], [0, 1, 2, 3, 4, 5, 6, 7, 8, 9, 10, 11, 12, 13, 14, 15, 16, 17, 18, 19, 20, 21, 22, 23, 24, 25, 26, 27, 28, 29, 30], [0, 1, 2, 3, 4, 5, 6, 7, 8, 9, 10, 11, 12, 13, 14, 15, 16, 17, 18, 19, 20, 21, 22, 23, 24, 25, 26, 27, 28, 29, 30, 31], [0, 1, 2, 3, 4, 5, 6, 7, 8, 9, 10, 11, 12, 13, 14, 15, 16, 17, 18, 19, 20, 21, 22, 23, 24, 25, 26, 27, 28, 29, 30, 31, 32], [0, 1, 2, 3, 4, 5, 6, 7, 8, 9, 10, 11, 12, 13, 14, 15, 16, 17, 18, 19, 20, 21, 22, 23, 24, 25, 26, 27, 28, 29, 30, 31, 32, 33], [0, 1, 2, 3, 4, 5, 6, 7, 8, 9, 10, 11, 12, 13, 14, 15, 16, 17, 18, 19, 20, 21, 22, 23, 24, 25, 26, 27, 28, 29, 30, 31, 32, 33, 34], [0, 1, 2, 3, 4, 5, 6, 7, 8, 9, 10, 11, 12, 13, 14, 15, 16, 17, 18, 19, 20, 21, 22, 23, 24, 25, 26, 27, 28, 29, 30, 31, 32, 33, 34, 35], [0, 1, 2, 3, 4, 5, 6, 7, 8, 9, 10, 11, 12, 13, 14, 15, 16, 17, 18, 19, 20, 21, 22, 23, 24, 25, 26, 27, 28, 29, 30, 31, 32, 33, 34, 35], [0, 1, 2, 3, 4, 5, 6, 7, 8, 9, 10, 11, 12, 13, 14, 15, 16, 17, 18, 19, 20, 21, 22, 23, 24, 25, 26, 27, 28, 29, 30, 31, 32, 33, 34, 35, 37], [0, 1, 2, 3, 4, 5, 6, 7, 8, 9, 10, 11, 12, 13, 14, 15, 16, 17, 18, 19, 20, 21, 22, 23, 24, 25, 26, 27, 28, 29, 30, 31, 32, 33, 34, 35, 36, 37, 38], [0, 1, 2, 3, 4, 5, 6, 7, 8, 9, 10, 11, 12, 13, 14, 15, 16, 17, 18, 19, 20, 21, 22, 23, 24, 25, 26, 27, 28, 29, 30, 31, 32, 33, 34, 35, 36, 37, 38, 39], [0, 1, 2, 3, 4, 5, 6, 7, 8, 9, 10, 11, 12, 13, 14, 15, 16, 17, 18, 19, 20, 21, 22, 23, 24, 25, 26, 27, 28, 29, 30, 31, 32, 33, 34, 35, 36, 37, 38, 39, 40], [0, 1, 2, 3, 4, 5, 6, 7, 8, 9, 10, 11, 12, 13, 14, 15, 16, 17, 18, 19, 20, 21, 22, 23, 24, 25, 26, 27, 28, 29, 30, 31, 32, 33, 34, 35], [0, 1, 2, 3, 4, 5, 6, 7, 8, 9, 10, 11, 12, 13, 14, 15, 16, 17, 18, 19, 20, 21, 22, 23, 24, 25, 26, 27, 28, 29, 30, 31, 32, 33, 34, 35], [0, 1, 2, 3, 4, 5, 6, 7, 8, 9, 10, 11, 12, 13, 14, 15, 16, 17, 18, 19, 20, 21, 22, 23, 24, 25, 26, 27, 28, 29, 30, 31, 32, 33, 34, 35, 42, 43], [0, 1, 2, 3, 4, 5, 6, 7, 8, 9, 10, 11, 12, 13, 14, 15, 16, 17, 18, 19, 20, 21, 22, 23, 24, 25, 26, 27, 28, 29, 30, 31, 32, 33, 34, 35, 42, 43, 44], [0, 1, 2, 3, 4, 5, 6, 7, 8, 9, 10, 11, 12, 13, 14, 15, 16, 17, 18, 19, 20, 21, 22, 23, 24, 25, 26, 27, 28, 29, 30, 31, 32, 33, 34, 35, 42, 43, 44, 45], [0, 1, 2, 3, 4, 5, 6, 7, 8, 9, 10, 11, 12, 13, 14, 15, 16, 17, 18, 19, 20, 21, 22, 23, 24, 25, 26, 27, 28, 29, 30, 31, 32, 33, 34, 35, 36, 37, 38, 39, 40, 41, 42, 43, 44, 45, 46], [0, 1, 2, 3, 4, 5, 6, 7, 8, 9, 10, 11, 12, 13, 14, 15, 16, 17, 18, 19, 20, 21, 22, 23, 24, 25, 26, 27, 28, 29, 30, 31, 32, 33, 34, 35, 36, 37, 38, 39, 40, 41, 42, 43, 44, 45, 46, 47], [0, 1, 2, 3, 4, 5, 6, 7, 8, 9, 10, 11, 12, 13, 14, 15, 16, 17, 18, 19, 20, 21, 22, 23, 24, 25, 26, 27, 28, 29, 30, 31, 32, 33, 34, 35, 36, 37, 38, 39, 40, 41, 42, 43, 44, 45, 46, 47, 48]] rfl (by kernel_rfl) ?_
                      refine qv_v (q_move rfl) ?_
                      refine qv_v (q_move rfl) ?_
                      refine qv_v (q_idxRdN (m := kx) Try.underlying46 sz52 rfl rfl hkl (Reads.row 0 rfl) (by rw [hzml]; omega)) ?_
                      refine qv_v (q_fldRd fo52_0 (by decide) rfl rfl) ?_
                      refine qv_v (q_loadRd Try.underlying3 rfl rfl (Reads.row 0 rfl) hp0) ?_
                      refine qv_v (q_move rfl) ?_
                      refine qv_v (q_as (v := .bool false) (q_leq_n Try.underlying3 rfl rfl) (by rw [decide_eq_false hv33])) ?_
                      refine qv_v (q_move rfl) ?_
                      refine qv_skip rfl ?_
                      refine qv_skip rfl ?_
                      refine qv_skip rfl ?_
                      refine qv_skip rfl ?_
                      refine qv_skip rfl ?_
                      refine qv_skip rfl ?_
                      refine qv_skip rfl ?_
                      refine qv_skip rfl ?_
                      refine qv_skip rfl ?_
                      refine qv_skip rfl ?_
                      refine qv_skip rfl ?_
                      refine qv_skip rfl ?_
                      refine qv_skip rfl ?_
                      refine qv_skip rfl ?_
                      refine qv_skip rfl ?_
                      refine qv_skip rfl ?_
                      refine qv_skip rfl ?_
                      refine qv_skip rfl ?_
                      refine qv_skip rfl ?_
                      refine qv_skip rfl ?_
                      refine qv_skip rfl ?_
                      refine qv_skip rfl ?_
                      refine qv_skip rfl ?_
                      first | (refine qv_v (q_pickT rfl rfl) ?_) | (refine qv_v (q_pickF rfl rfl) ?_)
                      refine qv_v (q_move rfl) ?_
                      refine qv_vg (rfl) (q_move rfl) ?_
                      refine qv_vg (rfl) (q_as (v := .bool true) (q_gtr_n (q := 0) Try.underlying3 rfl rfl) (by rw [decide_eq_true hq33])) ?_
                      refine qv_vg (rfl) (q_move rfl) ?_
                      refine qv_vg (rfl) (q_move rfl) ?_
                      refine qv_vg (rfl) (q_move rfl) ?_
                      first | (refine qv_vg (rfl) (q_sub_n (q := 1) rfl rfl (by omega) (by omega)) ?_) | (refine qv_vg (rfl) (q_sub_i rfl rfl (by omega) (by omega)) ?_)
                      refine qv_vg (rfl) (q_idxRdN (m := kx - 1) Try.underlying46 sz52 rfl rfl (by omega) (Reads.row 0 rfl) (by rw [hzml]; omega)) ?_
                      refine qv_vg (rfl) (q_fldRd fo52_0 (by decide) rfl rfl) ?_
                      refine qv_vg (rfl) (q_loadRd Try.underlying3 rfl rfl (Reads.row 0 rfl) hp0') ?_
                      refine qv_vg (rfl) (q_move rfl) ?_
                      refine qv_vg (rfl) (q_move rfl) ?_
                      refine qv_vg (rfl) (q_idxRdN (m := kx) Try.underlying46 sz52 rfl rfl hkl (Reads.row 0 rfl) (by rw [hzml]; omega)) ?_
                      refine qv_vg (rfl) (q_fldRd fo52_0 (by decide) rfl rfl) ?_
                      refine qv_vg (rfl) (q_loadRd Try.underlying3 rfl rfl (Reads.row 0 rfl) hp0) ?_
                      refine qv_end ?_
                      refine VL.keep (Sub.cons (s := 0) rfl (Sub.cons (s := 1) rfl (Sub.cons (s := 5) rfl (Sub.cons (s := 6) rfl (Sub.cons (s := 12) rfl (Sub.cons (s := 13) rfl (Sub.cons (s := 14) rfl (Sub.cons (s := 17) rfl (Sub.cons (s := 18) rfl (Sub.cons (s := 137) rfl (Sub.cons (s := 172) rfl (Sub.cons (s := 175) rfl (Sub.cons (s := 181) rfl (Sub.cons (s := 186) rfl (Sub.nil _))))))))))))))) ?_
                      refine vl_vg rfl (q_as (v := .bool false) (q_geq_n Try.underlying3 rfl rfl) (by rw [decide_eq_false (by omega)])) rfl ?_
                      first | (refine vl_vg rfl (q_pickT rfl rfl) rfl ?_) | (refine vl_vg rfl (q_pickF rfl rfl) rfl ?_)
                      first | (refine vl_v (q_pickT rfl rfl) rfl ?_) | (refine vl_v (q_pickF rfl rfl) rfl ?_)
                      refine vl_nil ?_
                      refine (qn_n (th_n ?_))
                      refine VC_no (rfl) ?_
                      refine VC_skip ?_
                      refine (bl_n (th_n ?_))
                      refine VC_region ?_
                      refine vl_v (q_move rfl) rfl ?_
                      first | (refine vl_v (q_add_n (q := 1) rfl rfl (by omega)) rfl ?_) | (refine vl_v (q_add_i rfl rfl (by omega) (by omega)) rfl ?_)
                      refine vl_v (q_assign rfl) rfl ?_
                      refine vl_nil ?_
                      refine (th_n ?_)
                      refine ⟨kx + 1, by omega, by omega, (Sub.cons (s := 0) rfl (Sub.cons (s := 1) rfl (Sub.cons (s := 5) rfl (Sub.cons (s := 6) rfl (Sub.cons (s := 12) rfl (Sub.cons (s := 13) rfl (Sub.cons (s := 14) rfl (Sub.cons (s := 17) rfl (Sub.cons (s := 18) rfl (Sub.nil _)))))))))), fun w H => H⟩
                  · skip
                    by_cases hv33 : e ≤ i
                    · skip
                      have hei : (boolsC (gone.set d true))[e]? = some (.bool false) := boolsC_at (by rw [hgn2.at_ e (by omega) hv33, decide_eq_true (List.mem_map.2 ⟨y.1, hzm y hym, he⟩)]; rfl)
                      have hti : y.1.s.ti = ((e - 1 : Nat) : Int) := by have := hoo2.ti _ (hzm y hym) (by rw [he]; omega); omega
                      rw [hti] at hp73
                      have hgm : 1 ≤ e ∧ e ≤ i := by omega
                      refine VC_drawV 47 [[], [], [0, 1], [2], [3], [], [4, 5], [6], [7], [7], [7], [9, 10, 7], [11, 7], [12, 7], [8, 13, 7], [14, 7], [15, 7], [16], [16], [17, 18, 16], [19, 16], [20, 16], [21, 16], [16], [16], [23, 24, 16], [25, 16], [26, 16], [27, 16], [22, 28, 16], [16, 29, 7], [7, 30], [31, 16], [32], [33, 32], [34, 32], [35], [35], [37, 35], [36, 38, 35], [39, 35], [40, 35], [35], [35], [42, 43, 35], [44, 35], [45, 35], [41, 46, 35], [35, 47, 32], [32, 48]] [[], [], [0, 1], [0, 1, 2], [0, 1, 2, 3], [], [0, 1, 2, 3, 4, 5], [0, 1, 2, 3, 4, 5, 6], [0, 1, 2, 3, 4, 5, 6, 7], [0, 1, 2, 3, 4, 5, 6, 7], [0, 1, 2, 3, 4, 5, 6, 7], [0, 1, 2, 3, 4, 5, 6, 7, 9, 10], [0, 1, 2, 3, 4, 5, 6, 7, 9, 10, 11], [0, 1, 2, 3, 4, 5, 6, 7, 9, 10, 11, 12], [0, 1, 2, 3, 4, 5, 6, 7, 8, 9, 10, 11, 12, 13], [0, 1, 2, 3, 4, 5, 6, 7, 8, 9, 10, 11, 12, 13, 14], [0, 1, 2, 3, 4, 5, 6, 7, 8, 9, 10, 11, 12, 13, 14, 15], [0, 1, 2, 3, 4, 5, 6, 7, 8, 9, 10, 11, 12, 13, 14, 15, 16], [0, 1, 2, 3, 4, 5, 6, 7, 8, 9, 10, 11, 12, 13, 14, 15, 16], [0, 1, 2, 3, 4, 5, 6, 7, 8, 9, 10, 11, 12, 13, 14, 15, 16, 17, 18], [0, 1, 2, 3, 4, 5, 6, 7, 8, 9, 10, 11, 12, 13, 14, 15, 16, 17, 18, 19], [0, 1, 2, 3, 4, 5, 6, 7, 8, 9, 10, 11, 12, 13, 14, 15, 16, 17, 18, 19, 20], [0, 1, 2, 3, 4, 5, 6, 7, 8, 9, 10, 11, 12, 13, 14, 15, 16, 17, 18, 19, 20, 21], [0, 1, 2, 3, 4, 5, 6, 7, 8, 9, 10, 11, 12, 13, 14, 15, 16], [0, 1, 2, 3, 4, 5, 6, 7, 8, 9, 10, 11, 12, 13, 14, 15, 16], [0, 1, 2, 3, 4, 5, 6, 7, 8, 9, 10, 11, 12, 13, 14, 15, 16, 23, 24], [0, 1, 2, 3, 4, 5, 6, 7, 8, 9, 10, 11, 12, 13, 14, 15, 16, 23, 24, 25], [0, 1, 2, 3, 4, 5, 6, 7, 8, 9, 10, 11, 12, 13, 14, 15, 16, 23, 24, 25, 26], [0, 1, 2, 3, 4, 5, 6, 7, 8, 9, 10, 11, 12, 13, 14, 15, 16, 23, 24, 25, 26, 27], [0, 1, 2, 3, 4, 5, 6, 7, 8, 9, 10, 11, 12, 13, 14, 15, 16, 17, 18, 19, 20, 21, 22, 23, 24, 25, 26, 27, 28], [0, 1, 2, 3, 4, 5, 6, 7, 8, 9, 10, 11, 12, 13, 14, 15, 16, 17, 18, 19, 20, 21, 22, 23, 24, 25, 26, 27, 28, 29], [0, 1, 2, 3, 4, 5, 6, 7, 8, 9, 10, 11, 12, 13, 14, 15, 16, 17, 18, 19, 20, 21, 22, 23, 24, 25, 26, 27, 28, 29, 30], [0, 1, 2, 3, 4, 5, 6, 7, 8, 9, 10, 11, 12, 13, 14, 15, 16, 17, 18, 19, 20, 21, 22, 23, 24, 25, 26, 27, 28, 29, 30, 31], [0, 1, 2, 3, 4, 5, 6, 7, 8, 9, 10, 11, 12, 13, 14, 15, 16, 17, 18, 19, 20, 21, 22, 23, 24, 25, 26, 27, 28, 29, 30, 31, 32], [0, 1, 2, 3, 4, 5, 6, 7, 8, 9, 10, 11, 12, 13, 14, 15, 16, 17, 18, 19, 20, 21, 22, 23, 24, 25, 26, 27, 28, 29, 30, 31, 32, 33], [0, 1, 2, 3, 4, 5, 6, 7, 8, 9, 10, 11, 12, 13, 14, 15, 16, 17, 18, 19, 20, 21, 22, 23, 24, 25, 26, 27, 28, 29, 30, 31, 32, 33, 34], [0, 1, 2, 3, 4, 5, 6, 7, 8, 9, 10, 11, 12, 13, 14, 15, 16, 17, 18, 19, 20, 21, 22, 23, 24, 25, 26, 27, 28, 29, 30, 31, 32, 33, 34, 35], [0, 1, 2, 3, 4, 5, 6, 7, 8, 9, 10, 11, 12, 13, 14, 15, 16, 17, 18, 19, 20, 21, 22, 23, 24, 25, 26, 27, 28, 29, 30, 31, 32, 33, 34, 35], [0, 1, 2, 3, 4, 5, 6, 7, 8, 9, 10, 11, 12, 13, 14, 15, 16, 17, 18, 19, 20, 21, 22, 23, 24, 25, 26, 27, 28, 29, 30, 31, 32, 33, 34, 35, 37], [0, 1, 2, 3, 4, 5, 6, 7, 8, 9, 10, 11, 12, 13, 14, 15, 16, 17, 18, 19, 20, 21, 22, 23, 24, 25, 26, 27, 28, 29, 30, 31, 32, 33, 34, 35, 36, 37, 38], [0, 1, 2, 3, 4, 5, 6, 7, 8, 9, 10, 11, 12, 13, 14, 15, 16, 17, 18, 19, 20, 21, 22, 23, 24, 25, 26, 27, 28, 29, 30, 31, 32, 33, 34, 35, 36, 37, 38, 39], [0, 1, 2, 3, 4, 5, 6, 7, 8, 9, 10, 11, 12, 13, 14, 15, 16, 17, 18, 19, 20, 21, 22, 23, 24, 25, 26, 27, 28, 29, 30, 31, 32, 33, 34, 35, 36, 37, 38, 39, 40], [0, 1, 2, 3, 4, 5, 6, 7, 8, 9, 10, 11, 12, 13, 14, 15, 16, 17, 18, 19, 20, 21, 22, 23, 24, 25, 26, 27, 28, 29, 30, 31, 32, 33, 34, 35], [0, 1, 2, 3, 4, 5, 6, 7, 8, 9, 10, 11, 12, 13, 14, 15, 16, 17, 18, 19, 20, 21, 22, 23, 24, 25, 26, 27, 28, 29, 30, 31, 32, 33, 34, 35], [0, 1, 2, 3, 4, 5, 6, 7, 8, 9, 10, 11, 12, 13, 14, 15, 16, 17, 18, 19, 20, 21, 22, 23, 24, 25, 26, 27, 28, 29, 30, 31, 32, 33, 34, 35, 42, 43], [0, 1, 2, 3, 4, 5, 6, 7, 8, 9, 10, 11, 12, 13, 14, 15, 16, 17, 18, 19, 20, 21, 22, 23, 24, 25, 26, 27, 28, 29, 30, 31, 32, 33, 34, 35, 42, 43, 44], [0, 1, 2, 3, 4, 5, 6, 7, 8, 9, 10, 11, 12, 13, 14, 15, 16, 17, 18, 19, 20, 21, 22, 23, 24, 25, 26, 27, 28, 29, 30, 31, 32, 33, 34, 35, 42, 43, 44, 45], [0, 1, 2, 3, 4, 5, 6, 7, 8, 9, 10, 11, 12, 13, 14, 15, 16, 17, 18, 19, 20, 21, 22, 23, 24, 25, 26, 27, 28, 29, 30, 31, 32, 33, 34, 35, 36, 37, 38, 39, 40, 41, 42, 43, 44, 45, 46], [0, 1, 2, 3, 4, 5, 6, 7, 8, 9, 10, 11, 12, 13, 14, 15, 16, 17, 18, 19, 20, 21, 22, 23, 24, 25, 26, 27, 28, 29, 30, 31, 32, 33, 34, 35, 36, 37, 38, 39, 40, 41, 42, 43, 44, 45, 46, 47], [0, 1, 2, 3, 4, 5, 6, 7, 8, 9, 10, 11, 12, 13, 14, 15, 16, 17, 18, 19, 20, 21, 22, 23, 24, 25, 26, 27, 28, 29, 30, 31, 32, 33, 34, 35, 36, 37, 38, 39, 40, 41, 42, 43, 44, 45, 46, 47, 48]] rfl (by kernel_rfl) ?_
                      refine qv_v (q_move rfl) ?_
                      refine qv_v (q_move rfl) ?_
                      refine qv_v (q_idxRdN (m := kx) Try.underlying46 sz52 rfl rfl hkl (Reads.row 0 rfl) (by rw [hzml]; omega)) ?_
                      refine qv_v (q_fldRd fo52_0 (by decide) rfl rfl) ?_
                      refine qv_v (q_loadRd Try.underlying3 rfl rfl (Reads.row 0 rfl) hp0) ?_
                      refine qv_v (q_move rfl) ?_
                      refine qv_v (q_as (v := .bool true) (q_leq_n Try.underlying3 rfl rfl) (by rw [decide_eq_true hv33])) ?_
                      refine qv_v (q_move rfl) ?_
                      refine qv_vg (rfl) (q_move rfl) ?_
                      refine qv_vg (rfl) (q_move rfl) ?_
                      refine qv_vg (rfl) (q_move rfl) ?_
                      refine qv_vg (rfl) (q_idxRdN (m := kx) Try.underlying46 sz52 rfl rfl hkl (Reads.row 0 rfl) (by rw [hzml]; omega)) ?_
                      refine qv_vg (rfl) (q_fldRd fo52_0 (by decide) rfl rfl) ?_
                      refine qv_vg (rfl) (q_loadRd Try.underlying3 rfl rfl (Reads.row 0 rfl) hp0) ?_
                      refine qv_vg (rfl) (q_idxS0 (m := e) Try.underlying50 sz4 rfl rfl (by omega) (by rw [Nat.mul_one, Nat.zero_add])) ?_
                      refine qv_vg (rfl) (q_load 1 Try.underlying4 rfl rfl rfl hei) ?_
                      refine qv_vg (rfl) (q_move rfl) ?_
                      refine qv_vg (rfl) (q_move rfl) ?_
                      refine qv_vg (rfl) (q_move rfl) ?_
                      refine qv_vg (rfl) (q_idxRdN (m := kx) Try.underlying46 sz52 rfl rfl hkl (Reads.row 0 rfl) (by rw [hzml]; omega)) ?_
                      refine qv_vg (rfl) (q_fldRd fo52_2 (by decide) rfl rfl) ?_
                      refine qv_vg (rfl) (q_fldRd fo38_3 (by decide) rfl rfl) ?_
                      refine qv_vg (rfl) (q_loadRd Try.underlying3 rfl rfl (Reads.row 0 rfl) hp73) ?_
                      refine qv_vg (rfl) (q_move rfl) ?_
                      refine qv_vg (rfl) (q_move rfl) ?_
                      refine qv_vg (rfl) (q_idxRdN (m := kx) Try.underlying46 sz52 rfl rfl hkl (Reads.row 0 rfl) (by rw [hzml]; omega)) ?_
                      refine qv_vg (rfl) (q_fldRd fo52_0 (by decide) rfl rfl) ?_
                      refine qv_vg (rfl) (q_loadRd Try.underlying3 rfl rfl (Reads.row 0 rfl) hp0) ?_
                      first | (refine qv_vg (rfl) (q_sub_n (q := 1) rfl rfl (by omega) (by omega)) ?_) | (refine qv_vg (rfl) (q_sub_i rfl rfl (by omega) (by omega)) ?_)
                      refine qv_vg (rfl) (q_as (v := .bool false) (q_neq_n Try.underlying3 rfl rfl) (by rw [decide_eq_true rfl]; rfl)) ?_
                      first | (refine qv_vg (rfl) (q_pickT rfl rfl) ?_) | (refine qv_vg (rfl) (q_pickF rfl rfl) ?_)
                      first | (refine qv_v (q_pickT rfl rfl) ?_) | (refine qv_v (q_pickF rfl rfl) ?_)
                      refine qv_v (q_move rfl) ?_
                      refine qv_vg (rfl) (q_move rfl) ?_
                      refine qv_vg (rfl) (q_as (v := .bool false) (q_gtr_n (q := 0) Try.underlying3 rfl rfl) (by rw [decide_eq_false hq33])) ?_
                      refine qv_vg (rfl) (q_move rfl) ?_
                      refine qv_skip rfl ?_
                      refine qv_skip rfl ?_
                      refine qv_skip rfl ?_
                      refine qv_skip rfl ?_
                      refine qv_skip rfl ?_
                      refine qv_skip rfl ?_
                      refine qv_skip rfl ?_
                      refine qv_skip rfl ?_
                      refine qv_skip rfl ?_
                      refine qv_skip rfl ?_
                      refine qv_skip rfl ?_
                      refine qv_end ?_
                      refine VL.keep (Sub.cons (s := 0) rfl (Sub.cons (s := 1) rfl (Sub.cons (s := 5) rfl (Sub.cons (s := 6) rfl (Sub.cons (s := 12) rfl (Sub.cons (s := 13) rfl (Sub.cons (s := 14) rfl (Sub.cons (s := 17) rfl (Sub.cons (s := 18) rfl (Sub.cons (s := 137) rfl (Sub.cons (s := 172) rfl (Sub.cons (s := 175) rfl (Sub.cons (s := 181) rfl (Sub.cons (s := 186) rfl (Sub.nil _))))))))))))))) ?_
                      refine vl_skip rfl rfl ?_
                      first | (refine vl_vg rfl (q_pickT rfl rfl) rfl ?_) | (refine vl_vg rfl (q_pickF rfl rfl) rfl ?_)
                      first | (refine vl_v (q_pickT rfl rfl) rfl ?_) | (refine vl_v (q_pickF rfl rfl) rfl ?_)
                      refine vl_nil ?_
                      refine (qn_n (th_n ?_))
                      refine VC_no (rfl) ?_
                      refine VC_skip ?_
                      refine (bl_n (th_n ?_))
                      refine VC_region ?_
                      refine vl_v (q_move rfl) rfl ?_
                      first | (refine vl_v (q_add_n (q := 1) rfl rfl (by omega)) rfl ?_) | (refine vl_v (q_add_i rfl rfl (by omega) (by omega)) rfl ?_)
                      refine vl_v (q_assign rfl) rfl ?_
                      refine vl_nil ?_
                      refine (th_n ?_)
                      refine ⟨kx + 1, by omega, by omega, (Sub.cons (s := 0) rfl (Sub.cons (s := 1) rfl (Sub.cons (s := 5) rfl (Sub.cons (s := 6) rfl (Sub.cons (s := 12) rfl (Sub.cons (s := 13) rfl (Sub.cons (s := 14) rfl (Sub.cons (s := 17) rfl (Sub.cons (s := 18) rfl (Sub.nil _)))))))))), fun w H => H⟩
                    · skip
                      refine VC_drawV 47 [[], [], [0, 1], [2], [3], [], [4, 5], [6], [7], [7], [7], [9, 10, 7], [11, 7], [12, 7], [8, 13, 7], [14, 7], [15, 7], [16], [16], [17, 18, 16], [19, 16], [20, 16], [21, 16], [16], [16], [23, 24, 16], [25, 16], [26, 16], [27, 16], [22, 28, 16], [16, 29, 7], [7, 30], [31, 16], [32], [33, 32], [34, 32], [35], [35], [37, 35], [36, 38, 35], [39, 35], [40, 35], [35], [35], [42, 43, 35], [44, 35], [45, 35], [41, 46, 35], [35, 47, 32], [32, 48]] [[], [], [0, 1], [0, 1, 2], [0, 1, 2, 3], [], [0, 1, 2, 3, 4, 5], [0, 1, 2, 3, 4, 5, 6], [0, 1, 2, 3, 4, 5, 6, 7], [0, 1, 2, 3, 4, 5, 6, 7], [0, 1, 2, 3, 4, 5, 6, 7], [0, 1, 2, 3, 4, 5, 6, 7, 9, 10], [0, 1, 2, 3, 4, 5, 6, 7, 9, 10, 11], [0, 1, 2, 3, 4, 5, 6, 7, 9, 10, 11, 12], [0, 1, 2, 3, 4, 5, 6, 7, 8, 9, 10, 11, 12, 13], [0, 1, 2, 3, 4, 5, 6, 7, 8, 9, 10, 11, 12, 13, 14], [0, 1, 2, 3, 4, 5, 6, 7, 8, 9, 10, 11, 12, 13, 14, 15], [0, 1, 2, 3, 4, 5, 6, 7, 8, 9, 10, 11, 12, 13, 14, 15, 16], [0, 1, 2, 3, 4, 5, 6, 7, 8, 9, 10, 11, 12, 13, 14, 15, 16], [0, 1, 2, 3, 4, 5, 6, 7, 8, 9, 10, 11, 12, 13, 14, 15, 16, 17, 18], [0, 1, 2, 3, 4, 5, 6, 7, 8, 9, 10, 11, 12, 13, 14, 15, 16, 17, 18, 19], [0, 1, 2, 3, 4, 5, 6, 7, 8, 9, 10, 11, 12, 13, 14, 15, 16, 17, 18, 19, 20], [0, 1, 2, 3, 4, 5, 6, 7, 8, 9, 10, 11, 12, 13, 14, 15, 16, 17, 18, 19, 20, 21], [0, 1, 2, 3, 4, 5, 6, 7, 8, 9, 10, 11, 12, 13, 14, 15, 16], [0, 1, 2, 3, 4, 5, 6, 7, 8, 9, 10, 11, 12, 13, 14, 15, 16], [0, 1, 2, 3, 4, 5, 6, 7, 8, 9, 10, 11, 12, 13, 14, 15, 16, 23, 24], [0, 1, 2, 3, 4, 5, 6, 7, 8, 9, 10, 11, 12, 13, 14, 15, 16, 23, 24, 25], [0, 1, 2, 3, 4, 5, 6, 7, 8, 9, 10, 11, 12, 13, 14, 15, 16, 23, 24, 25, 26], [0, 1, 2, 3, 4, 5, 6, 7, 8, 9, 10, 11, 12, 13, 14, 15, 16, 23, 24, 25, 26, 27], [0, 1, 2, 3, 4, 5, 6, 7, 8, 9, 10, 11, 12, 13, 14, 15, 16, 17, 18, 19, 20, 21, 22, 23, 24, 25, 26, 27, 28], [0, 1, 2, 3, 4, 5, 6, 7, 8, 9, 10, 11, 12, 13, 14, 15, 16, 17, 18, 19, 20, 21, 22, 23, 24, 25, 26, 27, 28, 29], [0, 1, 2, 3, 4, 5, 6, 7, 8, 9, 10, 11, 12, 13, 14, 15, 16, 17, 18, 19, 20, 21, 22, 23, 24, 25, 26, 27, 28, 29, 30], [0, 1, 2, 3, 4, 5, 6, 7, 8, 9, 10, 11, 12, 13, 14, 15, 16, 17, 18, 19, 20, 21, 22, 23, 24, 25, 26, 27, 28, 29, 30, 31], [0, 1, 2, 3, 4, 5, 6, 7, 8, 9, 10, 11, 12, 13, 14, 15, 16, 17, 18, 19, 20, 21, 22, 23, 24, 25, 26, 27, 28, 29, 30, 31, 32], [0, 1, 2, 3, 4, 5, 6, 7, 8, 9, 10, 11, 12, 13, 14, 15, 16, 17, 18, 19, 20, 21, 22, 23, 24, 25, 26, 27, 28, 29, 30, 31, 32, 33], [0, 1, 2, 3, 4, 5, 6, 7, 8, 9, 10, 11, 12, 13, 14, 15, 16, 17, 18, 19, 20, 21, 22, 23, 24, 25, 26, 27, 28, 29, 30, 31, 32, 33, 34], [0, 1, 2, 3, 4, 5, 6, 7, 8, 9, 10, 11, 12, 13, 14, 15, 16, 17, 18, 19, 20, 21, 22, 23, 24, 25, 26, 27, 28, 29, 30, 31, 32, 33, 34, 35], [0, 1, 2, 3, 4, 5, 6, 7, 8, 9, 10, 11, 12, 13, 14, 15, 16, 17, 18, 19, 20, 21, 22, 23, 24, 25, 26, 27, 28, 29, 30, 31, 32, 33, 34, 35], [0, 1, 2, 3, 4, 5, 6, 7, 8, 9, 10, 11, 12, 13, 14, 15, 16, 17, 18, 19, 20, 21, 22, 23, 24, 25, 26, 27, 28, 29, 30, 31, 32, 33, 34, 35, 37], [0, 1, 2, 3, 4, 5, 6, 7, 8, 9, 10, 11, 12, 13, 14, 15, 16, 17, 18, 19, 20, 21, 22, 23, 24, 25, 26, 27, 28, 29, 30, 31, 32, 33, 34, 35, 36, 37, 38], [0, 1, 2, 3, 4, 5, 6, 7, 8, 9, 10, 11, 12, 13, 14, 15, 16, 17, 18, 19, 20, 21, 22, 23, 24, 25, 26, 27, 28, 29, 30, 31, 32, 33, 34, 35, 36, 37, 38, 39], [0, 1, 2, 3, 4, 5, 6, 7, 8, 9, 10, 11, 12, 13, 14, 15, 16, 17, 18, 19, 20, 21, 22, 23, 24, 25, 26, 27, 28, 29, 30, 31, 32, 33, 34, 35, 36, 37, 38, 39, 40], [0, 1, 2, 3, 4, 5, 6, 7, 8, 9, 10, 11, 12, 13, 14, 15, 16, 17, 18, 19, 20, 21, 22, 23, 24, 25, 26, 27, 28, 29, 30, 31, 32, 33, 34, 35], [0, 1, 2, 3, 4, 5, 6, 7, 8, 9, 10, 11, 12, 13, 14, 15, 16, 17, 18, 19, 20, 21, 22, 23, 24, 25, 26, 27, 28, 29, 30, 31, 32, 33, 34, 35], [0, 1, 2, 3, 4, 5, 6, 7, 8, 9, 10, 11, 12, 13, 14, 15, 16, 17, 18, 19, 20, 21, 22, 23, 24, 25, 26, 27, 28, 29, 30, 31, 32, 33, 34, 35, 42, 43], [0, 1, 2, 3, 4, 5, 6, 7, 8, 9, 10, 11, 12, 13, 14, 15, 16, 17, 18, 19, 20, 21, 22, 23, 24, 25, 26, 27, 28, 29, 30, 31, 32, 33, 34, 35, 42, 43, 44], [0, 1, 2, 3, 4, 5, 6, 7, 8, 9, 10, 11, 12, 13, 14, 15, 16, 17, 18, 19, 20, 21, 22, 23, 24, 25, 26, 27, 28, 29, 30, 31, 32, 33, 34, 35, 42, 43, 44, 45], [0, 1, 2, 3, 4, 5, 6, 7, 8, 9, 10, 11, 12, 13, 14, 15, 16, 17, 18, 19, 20, 21, 22, 23, 24, 25, 26, 27, 28, 29, 30, 31, 32, 33, 34, 35, 36, 37, 38, 39, 40, 41, 42, 43, 44, 45, 46], [0, 1, 2, 3, 4, 5, 6, 7, 8, 9, 10, 11, 12, 13, 14, 15, 16, 17, 18, 19, 20, 21, 22, 23, 24, 25, 26, 27, 28, 29, 30, 31, 32, 33, 34, 35, 36, 37, 38, 39, 40, 41, 42, 43, 44, 45, 46, 47], [0, 1, 2, 3, 4, 5, 6, 7, 8, 9, 10, 11, 12, 13, 14, 15, 16, 17, 18, 19, 20, 21, 22, 23, 24, 25, 26, 27, 28, 29, 30, 31, 32, 33, 34, 35, 36, 37, 38, 39, 40, 41, 42, 43, 44, 45, 46, 47, 48]] rfl (by kernel_rfl) ?_
                      refine qv_v (q_move rfl) ?_
                      refine qv_v (q_move rfl) ?_
                      refine qv_v (q_idxRdN (m := kx) Try.underlying46 sz52 rfl rfl hkl (Reads.row 0 rfl) (by rw [hzml]; omega)) ?_
                      refine qv_v (q_fldRd fo52_0 (by decide) rfl rfl) ?_
                      refine qv_v (q_loadRd Try.underlying3 rfl rfl (Reads.row 0 rfl) hp0) ?_
                      refine qv_v (q_move rfl) ?_
                      refine qv_v (q_as (v := .bool false) (q_leq_n Try.underlying3 rfl rfl) (by rw [decide_eq_false hv33])) ?_
                      refine qv_v (q_move rfl) ?_
                      refine qv_skip rfl ?_
                      refine qv_skip rfl ?_
                      refine qv_skip rfl ?_
                      refine qv_skip rfl ?_
                      refine qv_skip rfl ?_
                      refine qv_skip rfl ?_
                      refine qv_skip rfl ?_
                      refine qv_skip rfl ?_
                      refine qv_skip rfl ?_
                      refine qv_skip rfl ?_
                      refine qv_skip rfl ?_
                      refine qv_skip rfl ?_
                      refine qv_skip rfl ?_
                      refine qv_skip rfl ?_
                      refine qv_skip rfl ?_
                      refine qv_skip rfl ?_
                      refine qv_skip rfl ?_
                      refine qv_skip rfl ?_
                      refine qv_skip rfl ?_
                      refine qv_skip rfl ?_
                      refine qv_skip rfl ?_
                      refine qv_skip rfl ?_
                      refine qv_skip rfl ?_
                      first | (refine qv_v (q_pickT rfl rfl) ?_) | (refine qv_v (q_pickF rfl rfl) ?_)
                      refine qv_v (q_move rfl) ?_
                      refine qv_vg (rfl) (q_move rfl) ?_
                      refine qv_vg (rfl) (q_as (v := .bool false) (q_gtr_n (q := 0) Try.underlying3 rfl rfl) (by rw [decide_eq_false hq33])) ?_
                      refine qv_vg (rfl) (q_move rfl) ?_
                      refine qv_skip rfl ?_
                      refine qv_skip rfl ?_
                      refine qv_skip rfl ?_
                      refine qv_skip rfl ?_
                      refine qv_skip rfl ?_
                      refine qv_skip rfl ?_
                      refine qv_skip rfl ?_
                      refine qv_skip rfl ?_
                      refine qv_skip rfl ?_
                      refine qv_skip rfl ?_
                      refine qv_skip rfl ?_
                      refine qv_end ?_
                      refine VL.keep (Sub.cons (s := 0) rfl (Sub.cons (s := 1) rfl (Sub.cons (s := 5) rfl (Sub.cons (s := 6) rfl (Sub.cons (s := 12) rfl (Sub.cons (s := 13) rfl (Sub.cons (s := 14) rfl (Sub.cons (s := 17) rfl (Sub.cons (s := 18) rfl (Sub.cons (s := 137) rfl (Sub.cons (s := 172) rfl (Sub.cons (s := 175) rfl (Sub.cons (s := 181) rfl (Sub.cons (s := 186) rfl (Sub.nil _))))))))))))))) ?_
                      refine vl_skip rfl rfl ?_
                      first | (refine vl_vg rfl (q_pickT rfl rfl) rfl ?_) | (refine vl_vg rfl (q_pickF rfl rfl) rfl ?_)
                      first | (refine vl_v (q_pickT rfl rfl) rfl ?_) | (refine vl_v (q_pickF rfl rfl) rfl ?_)
                      refine vl_nil ?_
                      refine (qn_n (th_n ?_))
                      refine VC_no (rfl) ?_
                      refine VC_skip ?_
                      refine (bl_n (th_n ?_))
                      refine VC_region ?_
                      refine vl_v (q_move rfl) rfl ?_
                      first | (refine vl_v (q_add_n (q := 1) rfl rfl (by omega)) rfl ?_) | (refine vl_v (q_add_i rfl rfl (by omega) (by omega)) rfl ?_)
                      refine vl_v (q_assign rfl) rfl ?_
                      refine vl_nil ?_
                      refine (th_n ?_)
                      refine ⟨kx + 1, by omega, by omega, (Sub.cons (s := 0) rfl (Sub.cons (s := 1) rfl (Sub.cons (s := 5) rfl (Sub.cons (s := 6) rfl (Sub.cons (s := 12) rfl (Sub.cons (s := 13) rfl (Sub.cons (s := 14) rfl (Sub.cons (s := 17) rfl (Sub.cons (s := 18) rfl (Sub.nil _)))))))))), fun w H => H⟩
                · skip
                  let z : TOn := ⟨ix + 1, A2, c2, ms2, gone.set d true⟩
                  have hz : z.ok i l.length many G1 := hz0
                  refine VC_exit ?_
                  refine (th_x (th_x (bl_xs (bl_n (th_n ?_)))))
                  refine VC_region ?_
                  refine vl_v (q_move rfl) rfl ?_
                  first | (refine vl_v (q_add_n (q := 1) rfl rfl (by omega)) rfl ?_) | (refine vl_v (q_add_i rfl rfl (by omega) (by omega)) rfl ?_)
                  refine vl_v (q_assign rfl) rfl ?_
                  refine vl_nil ?_
                  refine (th_n ?_)
                  refine ⟨z, hz, by show l.length - (ix + 1) < l.length - ix; omega, (Sub.cons (s := 0) rfl (Sub.cons (s := 1) rfl (Sub.cons (s := 5) rfl (Sub.cons (s := 6) rfl (Sub.cons (s := 12) rfl (Sub.cons (s := 13) rfl (Sub.cons (s := 14) rfl (Sub.nil _)))))))), fun w H => by first | exact H | exact dropO H⟩
          · skip
            refine VC_exit ?_
            refine (th_x (th_x (bl_xs (th_n ?_))))
            refine VC_seq ?_
            refine VC_region ?_
            refine vl_v (q_move rfl) rfl ?_
            refine vl_v (q_assign rfl) rfl ?_
            refine vl_nil ?_
            refine (th_n ?_)
            refine VC_ret ?_
            refine ⟨_, res1 rfl rfl, ?_⟩
            exact rfl
theorem mailboxOnce.walk (w : World) (a : Int) (g : (Lit.int .i64 a).wf = true) (v1 : Value) (l : List Int) (h1 : IsArg w v1 l) :
    Calls Try.prog 4 #[.int .i64 a, v1] w fun e w' => e = .returned (.bool true) ∧ Kept [] w w' := by
  obtain ⟨A, c, rfl, hc, hA⟩ := h1
  exact monce_all w a g l A c hc hA

namespace mailboxOnce
open Go.ChangeShapes Go.WideShapes Go.ChangeAt Go.RowKit
theorem own : ownKnob Try.prog.godebug = none := by kernel_rfl
theorem laidOut : laidOutB Try.prog = true := by kernel_rfl
set_option maxRecDepth 100000 in
theorem lifted (os : Os) (started : os.Started) (H : Type) (enc : TypeId × Value → H) :
    ReturnsInHanded {} Try.checked os 4 .any (Rows.mailboxOnceSpec.pre6 enc Try.prog Try.f4 Rows.mailboxOnceRow.domain false) (Rows.mailboxOnceSpec.post enc Try.prog Try.f4 false true false false) := by
  refine returnsInHanded_of_change (C := Try.checked) own started (by kernel_rfl) Try.func4
    (ChangeSpec.witness6 (enc := enc) (C := Try.checked) false ⟨#[], #[.int .i64 0, .slice none 0 0], []⟩ 8 (by kernel_rfl) (by kernel_rfl) (by kernel_rfl) (by kernel_rfl)) ?_
  intro W base args ds gs before hval0 hW hcnd _
  have hval : ∀ (j : Nat) t v, Try.f4.params[j]? = some t → args[j]? = some v → Value.okWide Try.prog W .any base t v := hval0
  have hW' := hW
  obtain ⟨p, q, hA0, hV, rfl, hfz, hnd⟩ := hW
  have hA : DataW.TrodAll enc Try.prog W 0 (fun _ => true) true Try.f4.params.toList args.toList ds p := hA0
  rw [Try.params4] at hA hval
  obtain ⟨v0, vs0, d0, ds0, p0, q0, hargs, rfl, rfl, h0, r0⟩ := trodAll_cons hA
  obtain ⟨v1, vs1, d1, ds1, p1, q1, rfl, rfl, rfl, h1, r1⟩ := trodAll_cons r0
  obtain ⟨rfl, rfl, rfl⟩ := trodAll_nil r1
  obtain rfl : args = #[v0, v1] := by cases args; simp_all
  obtain ⟨rfl, rfl⟩ := trodVars_none hV
  have k0 := h0
  have lt0 : ∀ x ∈ p0, x.block < W.heap.size := by obtain ⟨m, hm⟩ := k0; exact DataW.trod_lt m _ _ _ hm
  have k1 := h1
  have lt1 : ∀ x ∈ p1, x.block < W.heap.size := by obtain ⟨m, hm⟩ := k1; exact DataW.trod_lt m _ _ _ hm
  obtain ⟨n0, rfl, _, _, g0⟩ := open_int Try.underlying3 (hval 0 3 v0 rfl rfl) h0
  obtain ⟨l1, g1⟩ := open_i64s Try.underlying49 Try.underlying3 (by kernel_rfl) (hval 1 49 v1 rfl rfl) h1
  clear hA0 hval0
  refine (mailboxOnce.walk W n0 g0 v1 l1 g1).mono fun e W' ⟨he, hK⟩ => ?_
  subst he
  have bel := hK.below
  exact ⟨_, rfl, _, _, _, [], _, [], hW', trodAll_mk1 (shut_bool Try.underlying4 _), (trodAll_cons_mk (Below.trod laidOut (by kernel_rfl) (of_decide_eq_true (by kernel_rfl)) k0 bel lt0) (trodAll_cons_mk (Below.trod laidOut (by kernel_rfl) (of_decide_eq_true (by kernel_rfl)) k1 bel lt1) trodAll_mk0)), rfl, bel.frame _, fun h => by cases h⟩
theorem over : Rows.mailboxOnceRow.holds Try.pinned (OpenSpec.ofChange Rows.mailboxOnceSpec) :=
  OpenClaim.holds_of_wide 4 Try.f4 rfl rfl rfl rfl rfl rfl rfl ⟨rfl, rfl, rfl, rfl, rfl⟩ rfl rfl rfl rfl rfl (by kernel_rfl) Try.func4 (by kernel_rfl)
    (of_decide_eq_true (by kernel_rfl)) (by unfold Func.isWrapper; first | (rw [if_pos (by decide +kernel)]; kernel_rfl) | (rw [if_neg (by decide +kernel)]; exact ⟨rfl, rfl⟩))
    (fun os started H enc _ => lifted os started H enc)
theorem proved : Rows.MailboxOnceSaid := over
end mailboxOnce
/-- The row. -/
theorem mailboxOnce_holds : Rows.MailboxOnceSaid := mailboxOnce.proved
#print axioms mailboxOnce_holds
end Go.Proofs.Ytadaihpeionniaa
