/- What the functions of package head do, second part: a head off bytes. Conditions: lengths that memory bears. -/
import Derived.Test.YtpjjledbmfmbiaaC12
namespace Go.Proofs.Ytpjjledbmfmbiaa
open Go.RowKit Go.PBYtpjjledbmfmbiaa
set_option linter.unusedVariables false
set_option linter.unusedSimpArgs false
set_option maxRecDepth 10000

theorem splice_fst (xs ys vs : List Value) (h : vs.length = xs.length) : splice (xs ++ ys) 0 vs = vs ++ ys := by
  unfold splice
  simp [h]
theorem splice_all (xs vs : List Value) (h : vs.length = xs.length) : splice xs 0 vs = vs := by
  unfold splice
  simp [h]
theorem set_fst (xs : List Value) (a b v : Value) (j : Nat) (h : xs.length = j) : (xs ++ [a, b]).set j v = xs ++ [v, b] := by
  rw [List.set_append_right _ _ (by omega)]
  simp [h]
theorem set_snd (xs : List Value) (a b v : Value) (j : Nat) (h : xs.length + 1 = j) : (xs ++ [a, b]).set j v = xs ++ [a, v] := by
  rw [List.set_append_right _ _ (by omega)]
  subst h
  simp
theorem head_ok {w0 : World} {L : List Res} (b : Nat) (l p : List UInt8) (A : Option Addr) (m c x y : Nat) (hm : m = l.length) (hc : m ≤ c) (hn : 40 ≤ m) (hA : SlAt w0 A (bys l)) (hp : rdP l = p) (hx : rdM l = x) (hy : rdN l = y) (w : World) (H : St [] w0 (.blk b 48 [.slice A m c] :: L) w) :
    Calls Try.prog 24 #[vP b 0] w fun e w' => e = .returned (.agg (headC p x y).toArray) ∧ St [] w0 (.blk b 48 [.slice (adv (adv (adv A 32 c 1) 4 (c - 32) 1) 4 (c - 32 - 4) 1) (m - 32 - 4 - 4) (c - 32 - 4 - 4)] :: L) w' := by
  have hl : (bys p).length = 32 := by rw [← hp, rdP]; simp [bys]; omega
  have hp' : l.take 32 = p := hp
  have A1 := adv_at (n := 32) hA hm hc
  have A2 := adv_at (m := m - 32) (c := c - 32) (n := 4) A1 (by simp; omega) (by omega)
  have hx' : ofHigh ((l.drop 32).take 4) = x := hx
  have hy' : ofHigh (((l.drop 32).drop 4).take 4) = y := by rw [List.drop_drop]; exact hy
  have hz : (bys (List.replicate 32 0)).length = 32 := by simp [bys]
  refine enter (n := 13) (R := fun e M => e = .returned (.agg (headC p x y).toArray) ∧ ∃ z, M = z :: .blk b 48 [.slice (adv (adv (adv A 32 c 1) 4 (c - 32) 1) 4 (c - 32 - 4) 1) (m - 32 - 4 - 4) (c - 32 - 4 - 4)] :: L) [vP b 0] Try.func24 rfl rfl rfl H ?_ (fun e w' L' h H => ⟨h.1, by obtain ⟨_, x, rfl⟩ := h; exact H.sub (List.sublist_cons_self _ _)⟩)
  refine VC_seq ?_
  refine VC_region ?_
  refine l_allocA zr25 rfl ?_
  intro b2
  refine vl_nil ?_
  refine (th_n ?_)
  refine VC_seq ?_
  rw [show bys (List.replicate 32 0) ++ [Value.int .i64 0] ++ [Value.int .i64 0] = bys (List.replicate 32 0) ++ [vI 0, vI 0] by rw [List.append_assoc]; rfl]
  refine VC_region ?_
  refine vl_v (q_move rfl) rfl ?_
  refine l_callE Try.func31 rfl rfl rfl (fun w1 H1 => (key_ok b l A m c hm hc (by omega) hA w1 (H1.perm (List.Perm.swap _ _ _))).mono fun e w' h => ⟨h.1, h.2.perm (List.Perm.swap _ _ _)⟩) rfl ?_
  rw [hp']
  refine vl_v (q_fldA fo25_0 (by decide) rfl rfl) rfl ?_
  first | (refine l_storeA 0 rfl rfl rfl sz23 (by first | omega | (simp only [List.length_append, hl, hz, List.length_cons, List.length_nil]; done) | (simp only [List.length_append, hl, hz, List.length_cons, List.length_nil]; omega)) (by first | (with_reducible first | exact bys_one _ | exact u32s_one _ | exact u64s_one _ | exact i64s_one _ | exact n64s_one _ | assumption) | exact bys_one _ | exact u32s_one _ | exact u64s_one _ | exact i64s_one _ | exact one_all rfl | (refine app_one ?_ ?_ <;> first | exact bys_one _ | exact one_all rfl | (simp; done))) (by first | omega | (simp only [List.length_append, hl, hz, List.length_cons, List.length_nil]; done) | (simp only [List.length_append, hl, hz, List.length_cons, List.length_nil]; omega)) ?_) | (refine l_storeG 0 rfl rfl rfl sz23 (by first | omega | (simp only [List.length_append, hl, hz, List.length_cons, List.length_nil]; done) | (simp only [List.length_append, hl, hz, List.length_cons, List.length_nil]; omega)) (by first | (with_reducible first | exact bys_one _ | exact u32s_one _ | exact u64s_one _ | exact i64s_one _ | exact n64s_one _ | assumption) | exact bys_one _ | exact u32s_one _ | exact u64s_one _ | exact i64s_one _ | exact one_all rfl | (refine app_one ?_ ?_ <;> first | exact bys_one _ | exact one_all rfl | (simp; done))) (by first | omega | (simp only [List.length_append, hl, hz, List.length_cons, List.length_nil]; done) | (simp only [List.length_append, hl, hz, List.length_cons, List.length_nil]; omega)) ?_)
  simp only [List.set_cons_zero, List.set_cons_succ]
  refine vl_nil ?_
  refine (th_n ?_)
  refine VC_seq ?_
  rw [splice_fst _ _ _ (by rw [hl, hz])]
  refine VC_region ?_
  refine vl_v (q_move rfl) rfl ?_
  refine l_callE Try.func30 rfl rfl rfl (fun w1 H1 => (number_ok b (l.drop 32) (adv A 32 c 1) (m - 32) (c - 32) 4 x (by simp; omega) (by omega) (by omega) (by omega) A1 hx' w1 (H1.perm (List.Perm.swap _ _ _))).mono fun e w' h => ⟨h.1, h.2.perm (List.Perm.swap _ _ _)⟩) rfl ?_
  refine vl_v (q_fldA fo25_1 (by decide) rfl rfl) rfl ?_
  first | (refine l_stI 0 rfl rfl rfl sz3 (by first | omega | (simp only [List.length_append, hl, hz, List.length_cons, List.length_nil]; done) | (simp only [List.length_append, hl, hz, List.length_cons, List.length_nil]; omega)) ?_) | (refine l_store1 0 rfl rfl rfl sz3 rfl (by first | decide | (simp; done) | first | omega | (simp only [List.length_append, hl, hz, List.length_cons, List.length_nil]; done) | (simp only [List.length_append, hl, hz, List.length_cons, List.length_nil]; omega)) ?_)
  simp only [List.set_cons_zero, List.set_cons_succ]
  refine vl_nil ?_
  refine (th_n ?_)
  refine VC_seq ?_
  rw [set_fst _ _ _ _ _ hl]
  refine VC_region ?_
  refine vl_v (q_move rfl) rfl ?_
  refine l_callE Try.func30 rfl rfl rfl (fun w1 H1 => (number_ok b ((l.drop 32).drop 4) (adv (adv A 32 c 1) 4 (c - 32) 1) (m - 32 - 4) (c - 32 - 4) 4 y (by simp; omega) (by omega) (by omega) (by omega) A2 hy' w1 (H1.perm (List.Perm.swap _ _ _))).mono fun e w' h => ⟨h.1, h.2.perm (List.Perm.swap _ _ _)⟩) rfl ?_
  refine vl_v (q_fldA fo25_2 (by decide) rfl rfl) rfl ?_
  first | (refine l_stI 0 rfl rfl rfl sz3 (by first | omega | (simp only [List.length_append, hl, hz, List.length_cons, List.length_nil]; done) | (simp only [List.length_append, hl, hz, List.length_cons, List.length_nil]; omega)) ?_) | (refine l_store1 0 rfl rfl rfl sz3 rfl (by first | decide | (simp; done) | first | omega | (simp only [List.length_append, hl, hz, List.length_cons, List.length_nil]; done) | (simp only [List.length_append, hl, hz, List.length_cons, List.length_nil]; omega)) ?_)
  simp only [List.set_cons_zero, List.set_cons_succ]
  refine vl_nil ?_
  refine (th_n ?_)
  refine VC_seq ?_
  rw [set_snd _ _ _ _ _ (by rw [hl])]
  refine VC_region ?_
  first | (refine vl_v (q_loads 0 Try.underlying25 rfl rfl rfl sz25 (by first | omega | (simp only [List.length_append, hl, hz, List.length_cons, List.length_nil]; done) | (simp only [List.length_append, hl, hz, List.length_cons, List.length_nil]; omega))) rfl ?_) | (refine vl_v (q_loadsAt 0 Try.underlying25 rfl rfl rfl sz25 (by rfl) (by first | omega | (simp only [List.length_append, hl, hz, List.length_cons, List.length_nil]; done) | (simp only [List.length_append, hl, hz, List.length_cons, List.length_nil]; omega))) rfl ?_)
  first | (refine l_storeA 0 rfl rfl rfl sz25 (by first | omega | (simp only [List.length_append, hl, hz, List.length_cons, List.length_nil]; done) | (simp only [List.length_append, hl, hz, List.length_cons, List.length_nil]; omega)) (by first | (with_reducible first | exact bys_one _ | exact u32s_one _ | exact u64s_one _ | exact i64s_one _ | exact n64s_one _ | assumption) | exact bys_one _ | exact u32s_one _ | exact u64s_one _ | exact i64s_one _ | exact one_all rfl | (refine app_one ?_ ?_ <;> first | exact bys_one _ | exact one_all rfl | (simp; done))) (by first | omega | (simp only [List.length_append, hl, hz, List.length_cons, List.length_nil]; done) | (simp only [List.length_append, hl, hz, List.length_cons, List.length_nil]; omega)) ?_) | (refine l_storeG 0 rfl rfl rfl sz25 (by first | omega | (simp only [List.length_append, hl, hz, List.length_cons, List.length_nil]; done) | (simp only [List.length_append, hl, hz, List.length_cons, List.length_nil]; omega)) (by first | (with_reducible first | exact bys_one _ | exact u32s_one _ | exact u64s_one _ | exact i64s_one _ | exact n64s_one _ | assumption) | exact bys_one _ | exact u32s_one _ | exact u64s_one _ | exact i64s_one _ | exact one_all rfl | (refine app_one ?_ ?_ <;> first | exact bys_one _ | exact one_all rfl | (simp; done))) (by first | omega | (simp only [List.length_append, hl, hz, List.length_cons, List.length_nil]; done) | (simp only [List.length_append, hl, hz, List.length_cons, List.length_nil]; omega)) ?_)
  simp only [List.set_cons_zero, List.set_cons_succ]
  refine vl_nil ?_
  refine (th_n ?_)
  refine VC_ret ?_
  refine ⟨_, resC1 0 rfl Try.underlying25 rfl rfl rfl sz25 (by first | omega | (simp only [List.length_append, hl, hz, List.length_cons, List.length_nil]; done) | (simp only [List.length_append, hl, hz, List.length_cons, List.length_nil]; omega)), ?_⟩
  exact ⟨rfl, _, rfl⟩
theorem head_bad0 {w0 : World} {L : List Res} (b : Nat) (l : List UInt8) (A : Option Addr) (m c : Nat) (hm : m = l.length) (hc : m ≤ c) (hn : m < 32) (hA : SlAt w0 A (bys l)) (w : World) (H : St [] w0 (.blk b 48 [.slice A m c] :: L) w) :
    Calls Try.prog 24 #[vP b 0] w fun e w' => e = .panicked (chOf 3) ∧ ∃ v, St [] w0 (.blk b 48 [v] :: L) w' := by
  have hz : (bys (List.replicate 32 0)).length = 32 := by simp [bys]
  refine enter (n := 13) (R := fun e M => e = .panicked (chOf 3) ∧ ∃ z v, M = z :: .blk b 48 [v] :: L) [vP b 0] Try.func24 rfl rfl rfl H ?_ (fun e w' L' h H => ⟨h.1, by obtain ⟨_, x, v, rfl⟩ := h; exact ⟨v, H.sub (List.sublist_cons_self _ _)⟩⟩)
  refine VC_seq ?_
  refine VC_region ?_
  refine l_allocA zr25 rfl ?_
  intro b2
  refine vl_nil ?_
  refine (th_n ?_)
  refine VC_seq ?_
  refine VC_region ?_
  refine vl_v (q_move rfl) rfl ?_
  refine l_callX Try.func31 rfl rfl rfl (fun w1 H1 => (key_bad b A m c hn w1 (H1.perm (List.Perm.swap _ _ _))).mono fun e w' h => ⟨h.1, h.2.perm (List.Perm.swap _ _ _)⟩) ?_
  refine (th_p ?_)
  exact ⟨rfl, _, _, rfl⟩
theorem head_bad1 {w0 : World} {L : List Res} (b : Nat) (l : List UInt8) (A : Option Addr) (m c : Nat) (hm : m = l.length) (hc : m ≤ c) (h1 : 32 ≤ m) (hn : m < 36) (hA : SlAt w0 A (bys l)) (w : World) (H : St [] w0 (.blk b 48 [.slice A m c] :: L) w) :
    Calls Try.prog 24 #[vP b 0] w fun e w' => e = .panicked (chOf 3) ∧ ∃ v, St [] w0 (.blk b 48 [v] :: L) w' := by
  have hl : (bys (l.take 32)).length = 32 := by simp [bys]; omega
  have A1 := adv_at (n := 32) hA hm hc
  have hz : (bys (List.replicate 32 0)).length = 32 := by simp [bys]
  refine enter (n := 13) (R := fun e M => e = .panicked (chOf 3) ∧ ∃ z v, M = z :: .blk b 48 [v] :: L) [vP b 0] Try.func24 rfl rfl rfl H ?_ (fun e w' L' h H => ⟨h.1, by obtain ⟨_, x, v, rfl⟩ := h; exact ⟨v, H.sub (List.sublist_cons_self _ _)⟩⟩)
  refine VC_seq ?_
  refine VC_region ?_
  refine l_allocA zr25 rfl ?_
  intro b2
  refine vl_nil ?_
  refine (th_n ?_)
  refine VC_seq ?_
  rw [show bys (List.replicate 32 0) ++ [Value.int .i64 0] ++ [Value.int .i64 0] = bys (List.replicate 32 0) ++ [vI 0, vI 0] by rw [List.append_assoc]; rfl]
  refine VC_region ?_
  refine vl_v (q_move rfl) rfl ?_
  refine l_callE Try.func31 rfl rfl rfl (fun w1 H1 => (key_ok b l A m c hm hc (by omega) hA w1 (H1.perm (List.Perm.swap _ _ _))).mono fun e w' h => ⟨h.1, h.2.perm (List.Perm.swap _ _ _)⟩) rfl ?_
  refine vl_v (q_fldA fo25_0 (by decide) rfl rfl) rfl ?_
  first | (refine l_storeA 0 rfl rfl rfl sz23 (by first | omega | (simp only [List.length_append, hl, hz, List.length_cons, List.length_nil]; done) | (simp only [List.length_append, hl, hz, List.length_cons, List.length_nil]; omega)) (by first | (with_reducible first | exact bys_one _ | exact u32s_one _ | exact u64s_one _ | exact i64s_one _ | exact n64s_one _ | assumption) | exact bys_one _ | exact u32s_one _ | exact u64s_one _ | exact i64s_one _ | exact one_all rfl | (refine app_one ?_ ?_ <;> first | exact bys_one _ | exact one_all rfl | (simp; done))) (by first | omega | (simp only [List.length_append, hl, hz, List.length_cons, List.length_nil]; done) | (simp only [List.length_append, hl, hz, List.length_cons, List.length_nil]; omega)) ?_) | (refine l_storeG 0 rfl rfl rfl sz23 (by first | omega | (simp only [List.length_append, hl, hz, List.length_cons, List.length_nil]; done) | (simp only [List.length_append, hl, hz, List.length_cons, List.length_nil]; omega)) (by first | (with_reducible first | exact bys_one _ | exact u32s_one _ | exact u64s_one _ | exact i64s_one _ | exact n64s_one _ | assumption) | exact bys_one _ | exact u32s_one _ | exact u64s_one _ | exact i64s_one _ | exact one_all rfl | (refine app_one ?_ ?_ <;> first | exact bys_one _ | exact one_all rfl | (simp; done))) (by first | omega | (simp only [List.length_append, hl, hz, List.length_cons, List.length_nil]; done) | (simp only [List.length_append, hl, hz, List.length_cons, List.length_nil]; omega)) ?_)
  simp only [List.set_cons_zero, List.set_cons_succ]
  refine vl_nil ?_
  refine (th_n ?_)
  refine VC_seq ?_
  rw [splice_fst _ _ _ (by rw [hl, hz])]
  refine VC_region ?_
  refine vl_v (q_move rfl) rfl ?_
  refine l_callX Try.func30 rfl rfl rfl (fun w1 H1 => (number_bad b (adv A 32 c 1) (m - 32) (c - 32) 4 (by omega) w1 (H1.perm (List.Perm.swap _ _ _))).mono fun e w' h => ⟨h.1, h.2.perm (List.Perm.swap _ _ _)⟩) ?_
  refine (th_p ?_)
  exact ⟨rfl, _, _, rfl⟩
theorem head_bad2 {w0 : World} {L : List Res} (b : Nat) (l : List UInt8) (A : Option Addr) (m c : Nat) (hm : m = l.length) (hc : m ≤ c) (h1 : 36 ≤ m) (hn : m < 40) (hA : SlAt w0 A (bys l)) (w : World) (H : St [] w0 (.blk b 48 [.slice A m c] :: L) w) :
    Calls Try.prog 24 #[vP b 0] w fun e w' => e = .panicked (chOf 3) ∧ ∃ v, St [] w0 (.blk b 48 [v] :: L) w' := by
  have hl : (bys (l.take 32)).length = 32 := by simp [bys]; omega
  have A1 := adv_at (n := 32) hA hm hc
  obtain ⟨x, hx⟩ : ∃ x, ofHigh ((l.drop 32).take 4) = x := ⟨_, rfl⟩
  have hz : (bys (List.replicate 32 0)).length = 32 := by simp [bys]
  refine enter (n := 13) (R := fun e M => e = .panicked (chOf 3) ∧ ∃ z v, M = z :: .blk b 48 [v] :: L) [vP b 0] Try.func24 rfl rfl rfl H ?_ (fun e w' L' h H => ⟨h.1, by obtain ⟨_, x, v, rfl⟩ := h; exact ⟨v, H.sub (List.sublist_cons_self _ _)⟩⟩)
  refine VC_seq ?_
  refine VC_region ?_
  refine l_allocA zr25 rfl ?_
  intro b2
  refine vl_nil ?_
  refine (th_n ?_)
  refine VC_seq ?_
  rw [show bys (List.replicate 32 0) ++ [Value.int .i64 0] ++ [Value.int .i64 0] = bys (List.replicate 32 0) ++ [vI 0, vI 0] by rw [List.append_assoc]; rfl]
  refine VC_region ?_
  refine vl_v (q_move rfl) rfl ?_
  refine l_callE Try.func31 rfl rfl rfl (fun w1 H1 => (key_ok b l A m c hm hc (by omega) hA w1 (H1.perm (List.Perm.swap _ _ _))).mono fun e w' h => ⟨h.1, h.2.perm (List.Perm.swap _ _ _)⟩) rfl ?_
  refine vl_v (q_fldA fo25_0 (by decide) rfl rfl) rfl ?_
  first | (refine l_storeA 0 rfl rfl rfl sz23 (by first | omega | (simp only [List.length_append, hl, hz, List.length_cons, List.length_nil]; done) | (simp only [List.length_append, hl, hz, List.length_cons, List.length_nil]; omega)) (by first | (with_reducible first | exact bys_one _ | exact u32s_one _ | exact u64s_one _ | exact i64s_one _ | exact n64s_one _ | assumption) | exact bys_one _ | exact u32s_one _ | exact u64s_one _ | exact i64s_one _ | exact one_all rfl | (refine app_one ?_ ?_ <;> first | exact bys_one _ | exact one_all rfl | (simp; done))) (by first | omega | (simp only [List.length_append, hl, hz, List.length_cons, List.length_nil]; done) | (simp only [List.length_append, hl, hz, List.length_cons, List.length_nil]; omega)) ?_) | (refine l_storeG 0 rfl rfl rfl sz23 (by first | omega | (simp only [List.length_append, hl, hz, List.length_cons, List.length_nil]; done) | (simp only [List.length_append, hl, hz, List.length_cons, List.length_nil]; omega)) (by first | (with_reducible first | exact bys_one _ | exact u32s_one _ | exact u64s_one _ | exact i64s_one _ | exact n64s_one _ | assumption) | exact bys_one _ | exact u32s_one _ | exact u64s_one _ | exact i64s_one _ | exact one_all rfl | (refine app_one ?_ ?_ <;> first | exact bys_one _ | exact one_all rfl | (simp; done))) (by first | omega | (simp only [List.length_append, hl, hz, List.length_cons, List.length_nil]; done) | (simp only [List.length_append, hl, hz, List.length_cons, List.length_nil]; omega)) ?_)
  simp only [List.set_cons_zero, List.set_cons_succ]
  refine vl_nil ?_
  refine (th_n ?_)
  refine VC_seq ?_
  rw [splice_fst _ _ _ (by rw [hl, hz])]
  refine VC_region ?_
  refine vl_v (q_move rfl) rfl ?_
  refine l_callE Try.func30 rfl rfl rfl (fun w1 H1 => (number_ok b (l.drop 32) (adv A 32 c 1) (m - 32) (c - 32) 4 x (by simp; omega) (by omega) (by omega) (by omega) A1 hx w1 (H1.perm (List.Perm.swap _ _ _))).mono fun e w' h => ⟨h.1, h.2.perm (List.Perm.swap _ _ _)⟩) rfl ?_
  refine vl_v (q_fldA fo25_1 (by decide) rfl rfl) rfl ?_
  first | (refine l_stI 0 rfl rfl rfl sz3 (by first | omega | (simp only [List.length_append, hl, hz, List.length_cons, List.length_nil]; done) | (simp only [List.length_append, hl, hz, List.length_cons, List.length_nil]; omega)) ?_) | (refine l_store1 0 rfl rfl rfl sz3 rfl (by first | decide | (simp; done) | first | omega | (simp only [List.length_append, hl, hz, List.length_cons, List.length_nil]; done) | (simp only [List.length_append, hl, hz, List.length_cons, List.length_nil]; omega)) ?_)
  simp only [List.set_cons_zero, List.set_cons_succ]
  refine vl_nil ?_
  refine (th_n ?_)
  refine VC_seq ?_
  refine VC_region ?_
  refine vl_v (q_move rfl) rfl ?_
  refine l_callX Try.func30 rfl rfl rfl (fun w1 H1 => (number_bad b (adv (adv A 32 c 1) 4 (c - 32) 1) (m - 32 - 4) (c - 32 - 4) 4 (by omega) w1 (H1.perm (List.Perm.swap _ _ _))).mono fun e w' h => ⟨h.1, h.2.perm (List.Perm.swap _ _ _)⟩) ?_
  refine (th_p ?_)
  exact ⟨rfl, _, _, rfl⟩
theorem head_bad {w0 : World} {L : List Res} (b : Nat) (l : List UInt8) (A : Option Addr) (m c : Nat) (hm : m = l.length) (hc : m ≤ c) (hn : m < 40) (hA : SlAt w0 A (bys l)) (w : World) (H : St [] w0 (.blk b 48 [.slice A m c] :: L) w) :
    Calls Try.prog 24 #[vP b 0] w fun e w' => e = .panicked (chOf 3) ∧ ∃ v, St [] w0 (.blk b 48 [v] :: L) w' := by
  by_cases h1 : m < 32
  · exact head_bad0 b l A m c hm hc h1 hA w H
  by_cases h2 : m < 36
  · exact head_bad1 b l A m c hm hc (by omega) h2 hA w H
  · exact head_bad2 b l A m c hm hc (by omega) hn hA w H
theorem must_ok {w0 : World} {L : List Res} (b : Nat) (A : Option Addr) (m c : Nat) (hm : m = 0) (w : World) (H : St [] w0 (.blk b 48 [.slice A m c] :: L) w) :
    Calls Try.prog 25 #[vP b 0, .bool true] w fun e w' => e = .returned (.tuple #[]) ∧ St [] w0 (.blk b 48 [.slice A m c] :: L) w' := by
  refine enter (n := 15) (R := fun e M => e = .returned (.tuple #[]) ∧ M = .blk b 48 [.slice A m c] :: L) [vP b 0, .bool true] Try.func25 rfl rfl rfl H ?_ (fun e w' L' h H => ⟨h.1, h.2 ▸ H⟩)
  refine VC_seq ?_
  refine VC_region ?_
  refine vl_v (q_move rfl) rfl ?_
  refine vl_v (q_not rfl) rfl ?_
  refine vl_v (q_move rfl) rfl ?_
  refine vl_vg rfl (q_move rfl) rfl ?_
  refine vl_vg rfl (q_nilck rfl) rfl ?_
  refine vl_vg rfl (q_fldA fo48_0 (by decide) rfl rfl) rfl ?_
  refine vl_vg rfl (q_load 0 Try.underlying26 rfl rfl rfl rfl) rfl ?_
  refine vl_vg rfl (q_lenS Try.underlying26 rfl) rfl ?_
  first | (refine vl_vg rfl (q_gtr_n (q := 0) Try.underlying3 rfl rfl) rfl ?_) | (refine vl_vg rfl (q_gtr_k Try.underlying3 rfl rfl) rfl ?_)
  first | (refine vl_v (q_pickT rfl rfl) rfl ?_) | (refine vl_v (q_pickF rfl rfl) rfl ?_)
  refine vl_nil ?_
  refine (th_n ?_)
  refine VC_cond rfl (fun ht13 => ?_) (fun ht13 => ?_)
  · skip
    exfalso; have ht13 := of_decide_eq_true ht13; omega
  · skip
    have ht13 := of_decide_eq_false ht13
    refine VC_skip ?_
    refine ⟨_, res0 rfl, ?_⟩
    exact ⟨rfl, rfl⟩
theorem must_bad1 {w0 : World} {L : List Res} (b : Nat) (A : Option Addr) (m c : Nat)  (w : World) (H : St [] w0 (.blk b 48 [.slice A m c] :: L) w) :
    Calls Try.prog 25 #[vP b 0, .bool false] w fun e w' => e = .panicked (chOf 2) ∧ St [] w0 (.blk b 48 [.slice A m c] :: L) w' := by
  refine enter (n := 15) (R := fun e M => e = .panicked (chOf 2) ∧ M = .blk b 48 [.slice A m c] :: L) [vP b 0, .bool false] Try.func25 rfl rfl rfl H ?_ (fun e w' L' h H => ⟨h.1, h.2 ▸ H⟩)
  refine VC_seq ?_
  refine VC_region ?_
  refine vl_v (q_move rfl) rfl ?_
  refine vl_v (q_not rfl) rfl ?_
  refine vl_v (q_move rfl) rfl ?_
  refine vl_skip rfl rfl ?_
  refine vl_skip rfl rfl ?_
  refine vl_skip rfl rfl ?_
  refine vl_skip rfl rfl ?_
  refine vl_skip rfl rfl ?_
  refine vl_skip rfl rfl ?_
  first | (refine vl_v (q_pickT rfl rfl) rfl ?_) | (refine vl_v (q_pickF rfl rfl) rfl ?_)
  refine vl_nil ?_
  refine (th_n ?_)
  refine VC_yes (rfl) ?_
  refine VC_region ?_
  refine vl_v (q_iface Try.underlying28 rfl) rfl ?_
  refine l_panic rfl ?_
  exact ⟨rfl, rfl⟩
theorem must_bad2 {w0 : World} {L : List Res} (b : Nat) (A : Option Addr) (m c : Nat) (hm : 0 < m) (w : World) (H : St [] w0 (.blk b 48 [.slice A m c] :: L) w) :
    Calls Try.prog 25 #[vP b 0, .bool true] w fun e w' => e = .panicked (chOf 2) ∧ St [] w0 (.blk b 48 [.slice A m c] :: L) w' := by
  refine enter (n := 15) (R := fun e M => e = .panicked (chOf 2) ∧ M = .blk b 48 [.slice A m c] :: L) [vP b 0, .bool true] Try.func25 rfl rfl rfl H ?_ (fun e w' L' h H => ⟨h.1, h.2 ▸ H⟩)
  refine VC_seq ?_
  refine VC_region ?_
  refine vl_v (q_move rfl) rfl ?_
  refine vl_v (q_not rfl) rfl ?_
  refine vl_v (q_move rfl) rfl ?_
  refine vl_vg rfl (q_move rfl) rfl ?_
  refine vl_vg rfl (q_nilck rfl) rfl ?_
  refine vl_vg rfl (q_fldA fo48_0 (by decide) rfl rfl) rfl ?_
  refine vl_vg rfl (q_load 0 Try.underlying26 rfl rfl rfl rfl) rfl ?_
  refine vl_vg rfl (q_lenS Try.underlying26 rfl) rfl ?_
  first | (refine vl_vg rfl (q_gtr_n (q := 0) Try.underlying3 rfl rfl) rfl ?_) | (refine vl_vg rfl (q_gtr_k Try.underlying3 rfl rfl) rfl ?_)
  first | (refine vl_v (q_pickT rfl rfl) rfl ?_) | (refine vl_v (q_pickF rfl rfl) rfl ?_)
  refine vl_nil ?_
  refine (th_n ?_)
  refine VC_cond rfl (fun ht13 => ?_) (fun ht13 => ?_)
  · skip
    have ht13 := of_decide_eq_true ht13
    refine VC_region ?_
    refine vl_v (q_iface Try.underlying28 rfl) rfl ?_
    refine l_panic rfl ?_
    exact ⟨rfl, rfl⟩
  · skip
    exfalso; have ht13 := of_decide_eq_false ht13; omega
end Go.Proofs.Ytpjjledbmfmbiaa
