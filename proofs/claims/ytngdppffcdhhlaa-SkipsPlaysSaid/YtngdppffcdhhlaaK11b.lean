/- What the store of kept keys does: one is taken out of the row. No condition. -/
import Derived.Test.YtngdppffcdhhlaaK11
namespace Go.Proofs.Ytngdppffcdhhlaa
open Go.RowKit Go.PBYtngdppffcdhhlaa
set_option linter.unusedVariables false
set_option linter.unusedSimpArgs false
set_option maxRecDepth 10000

theorem ofZero : (Try.prog.info? 51).map (fun i => (i.zero, i.size)) = some (some (Value.agg ((List.replicate 32 (Value.int .u8 0)) ++ [Value.int .i64 0]).toArray), 33) := by kernel_rfl

def DlC (S : List Nat) (w0 : World) (LL : List Res) (q b : Nat) (c0 c1 : List Value) (s : Nat) (w' : World) : Prop :=
  match s with
  | 0 => St S w0 (LL.set q (.blk b 51 c0)) w'
  | _ => St S w0 (LL.set q (.blk b 51 c1)) w'

set_option maxHeartbeats 1600000 in
theorem delete_calls {S : List Nat} {w0 w : World} {LL : List Res} {q n : Nat} {v : Value} {xs : List Value} (j : Nat) (H : St S w0 LL w) (hq : LL[q]? = some (.row 51 33 v n xs)) (hj : j < n) (h1 : ∀ u ∈ xs, u.oneCell' = true) :
    Calls Try.prog 21 #[v, .int .i64 j, .int .i64 ((j : Int) + 1)] w fun e w' => ∃ v', e = .returned v' ∧ St S w0 (LL.set q (.row 51 33 v' (n - 1) (xs.take (j * 33) ++ xs.drop ((j + 1) * 33)))) w' := by
  obtain ⟨hlen, hrow⟩ := H.get hq
  rcases hrow with ⟨rfl, rfl⟩ | ⟨b, cap, more, rfl, hnc, hcm, hcl, hblk⟩
  · omega
  have hlt : q < LL.length := (List.getElem?_eq_some_iff.1 hq).1
  have H1 := H.as hq (r' := .blk b 51 (xs ++ more)) hblk rfl
  have hq1 : (LL.set q (.blk b 51 (xs ++ more)))[q]? = some (.blk b 51 (xs ++ more)) := by simp [hlt]
  obtain ⟨m, hm⟩ : ∃ m, n = j + 1 + m := ⟨n - (j + 1), by omega⟩
  subst hm
  have hlen' := Lib.hid hlen
  have hcl' := Lib.hid hcl
  have hone := Lib.hid h1
  have hq1' := Lib.hid hq1
  clear hlen hcl h1 hq1 hblk hq H
  have hne : ((j : Int) == (j : Int) + 1) = false := by rw [beq_eq_false_iff_ne]; omega
  obtain ⟨o, ho⟩ : ∃ o, o = if cap = j + 1 then 0 else (j + 1) * 33 := ⟨_, rfl⟩
  have ho' := Lib.hid ho
  clear ho
  obtain ⟨news, hnews⟩ : ∃ news, news = ((xs ++ more).drop o).take (m * 33) := ⟨_, rfl⟩
  have hnews2 : Hid (news = xs.drop ((j + 1) * 33)) := by
    show _ = _
    have h2 := hlen'.out
    have h3 := hcl'.out
    by_cases hc : cap = j + 1
    · have : m = 0 := by omega
      subst this
      have h6 : xs.drop ((j + 1) * 33) = [] := List.drop_eq_nil_of_le (by rw [h2]; omega)
      rw [hnews, h6]
      simp
    · rw [hnews, ho'.out, if_neg hc, List.drop_append_of_le_length (by rw [h2]; omega), List.take_append_of_le_length (by rw [List.length_drop, h2]; omega), List.take_of_length_le (by rw [List.length_drop, h2]; omega)]
  have hnews1 := Lib.hid hnews
  clear hnews
  go_enter Try.func21, Try.ntmps21
  go_wp2_with (first | (with_reducible refine stop_box ?_) | (with_reducible refine stop_alloc ?_) | (with_reducible refine stop_load ?_) | (with_reducible refine stop_store ?_) | (with_reducible refine stop_make ?_) | (with_reducible refine stop_lit ?_) | (with_reducible refine stop_append ?_) | (with_reducible refine stop_copy ?_) | (with_reducible refine stop_map ?_) | (with_reducible refine stop_lookup ?_) | (with_reducible refine stop_update ?_) | (with_reducible refine stop_delete ?_) | (with_reducible refine stop_clear ?_) | (with_reducible refine stop_arr ?_) | (with_reducible refine stop_idx ?_) | (with_reducible refine stop_slice ?_) | ((with_reducible refine stopg_box ?hw ?_); case hw => rfl) | ((with_reducible refine stopg_alloc ?hw ?_); case hw => rfl) | ((with_reducible refine stopg_load ?hw ?_); case hw => rfl) | ((with_reducible refine stopg_store ?hw ?_); case hw => rfl) | ((with_reducible refine stopg_make ?hw ?_); case hw => rfl) | ((with_reducible refine stopg_lit ?hw ?_); case hw => rfl) | ((with_reducible refine stopg_append ?hw ?_); case hw => rfl) | ((with_reducible refine stopg_copy ?hw ?_); case hw => rfl) | ((with_reducible refine stopg_map ?hw ?_); case hw => rfl) | ((with_reducible refine stopg_lookup ?hw ?_); case hw => rfl) | ((with_reducible refine stopg_update ?hw ?_); case hw => rfl) | ((with_reducible refine stopg_delete ?hw ?_); case hw => rfl) | ((with_reducible refine stopg_clear ?hw ?_); case hw => rfl) | ((with_reducible refine stopg_arr ?hw ?_); case hw => rfl) | ((with_reducible refine stopg_slice ?hw ?_); case hw => rfl) | ((with_reducible refine stopg_idx ?hw ?_); case hw => rfl))
  refine wpl_want rfl (opw_slice3 (l := j) (h := j + 1) (m := j + 1 + m) Try.underlying47 ofSize rfl rfl rfl rfl (by omega) (by omega) hnc (fun B => ?_))
  go_wp2_with (first | (with_reducible refine stop_box ?_) | (with_reducible refine stop_alloc ?_) | (with_reducible refine stop_load ?_) | (with_reducible refine stop_store ?_) | (with_reducible refine stop_make ?_) | (with_reducible refine stop_lit ?_) | (with_reducible refine stop_append ?_) | (with_reducible refine stop_copy ?_) | (with_reducible refine stop_map ?_) | (with_reducible refine stop_lookup ?_) | (with_reducible refine stop_update ?_) | (with_reducible refine stop_delete ?_) | (with_reducible refine stop_clear ?_) | (with_reducible refine stop_arr ?_) | (with_reducible refine stop_idx ?_) | (with_reducible refine stop_slice ?_) | ((with_reducible refine stopg_box ?hw ?_); case hw => rfl) | ((with_reducible refine stopg_alloc ?hw ?_); case hw => rfl) | ((with_reducible refine stopg_load ?hw ?_); case hw => rfl) | ((with_reducible refine stopg_store ?hw ?_); case hw => rfl) | ((with_reducible refine stopg_make ?hw ?_); case hw => rfl) | ((with_reducible refine stopg_lit ?hw ?_); case hw => rfl) | ((with_reducible refine stopg_append ?hw ?_); case hw => rfl) | ((with_reducible refine stopg_copy ?hw ?_); case hw => rfl) | ((with_reducible refine stopg_map ?hw ?_); case hw => rfl) | ((with_reducible refine stopg_lookup ?hw ?_); case hw => rfl) | ((with_reducible refine stopg_update ?hw ?_); case hw => rfl) | ((with_reducible refine stopg_delete ?hw ?_); case hw => rfl) | ((with_reducible refine stopg_clear ?hw ?_); case hw => rfl) | ((with_reducible refine stopg_arr ?hw ?_); case hw => rfl) | ((with_reducible refine stopg_slice ?hw ?_); case hw => rfl) | ((with_reducible refine stopg_idx ?hw ?_); case hw => rfl))
  refine wp_region_chain (n := 33) [6] (fun s v w' => DlC S w0 LL q b (xs ++ more) (splice (xs ++ more) (j * 33) news) s w') (regF [fun v _ => v = .slice (some ⟨b, 0, none⟩) (j + 1 + m) cap, fun v _ => v = .int .i64 j, fun v _ => v = .slice (some ⟨b, 0, none⟩) j cap, fun v _ => v = .slice (some ⟨b, 0, none⟩) (j + 1 + m) cap, fun v _ => v = .int .i64 ((j : Int) + 1), fun v _ => v = .slice (some ⟨b, o, none⟩) (j + 1 + m - (j + 1)) (cap - (j + 1)), fun v _ => v = .slice (some ⟨b, 0, none⟩) (j + m) cap, fun v _ => v = .slice (some ⟨b, 0, none⟩) (j + m) cap]) [[], [], [(20, 0), (21, 1)], [], [], [(23, 3), (24, 4)], [(22, 2), (25, 5)], [(26, 6), (20, 0), (21, 1), (22, 2), (23, 3), (24, 4), (25, 5)]] [(20, 0), (21, 1), (22, 2), (23, 3), (24, 4), (25, 5), (26, 6), (0, 7)] (by kernel_rfl) (by kernel_rfl) rfl H1.drew ⟨?_, ?_, ?_, ?_, ?_, ?_, ?_, ?_, trivial⟩ ?_
  · intro s9 v9 vx w9 hs hv9 hC hF
    clear hF
    refine ⟨trivial, ?_⟩
    simp only [putsOf]
    exact opw_val (v := .slice (some ⟨b, 0, none⟩) (j + 1 + m) cap) (w' := w9) (by go_simp <;> (simp only [IntKind.wrap_u64, IntKind.wrap_i64] <;> omega)) ⟨_, rfl, by simp, (by rw [if_neg (by decide)]; exact hC), (fun _ _ h => h), rfl⟩
  · intro s9 v9 vx w9 hs hv9 hC hF
    clear hF
    refine ⟨trivial, ?_⟩
    simp only [putsOf]
    exact opw_val (v := .int .i64 j) (w' := w9) (by go_simp <;> (simp only [IntKind.wrap_u64, IntKind.wrap_i64] <;> omega)) ⟨_, rfl, by simp, (by rw [if_neg (by decide)]; exact hC), (fun _ _ h => h), rfl⟩
  · intro s9 v9 vx w9 hs hv9 hC hF
    have q0 : (vx 0) = .slice (some ⟨b, 0, none⟩) (j + 1 + m) cap := hF (20, 0) (by simp)
    have q1 : (vx 1) = .int .i64 j := hF (21, 1) (by simp)
    clear hF
    refine ⟨trivial, ?_⟩
    simp only [putsOf, q0, q1]
    exact opw_sliceAt 0 j Try.underlying47 ofSize rfl (.inl ⟨rfl, rfl⟩) (.inr ⟨.i64, _, rfl, rfl⟩) (by omega) (by omega) 0 (by split <;> omega) ⟨_, rfl, by simp, (by rw [if_neg (by decide)]; exact hC), (fun _ _ h => h), rfl⟩
  · intro s9 v9 vx w9 hs hv9 hC hF
    clear hF
    refine ⟨trivial, ?_⟩
    simp only [putsOf]
    exact opw_val (v := .slice (some ⟨b, 0, none⟩) (j + 1 + m) cap) (w' := w9) (by go_simp <;> (simp only [IntKind.wrap_u64, IntKind.wrap_i64] <;> omega)) ⟨_, rfl, by simp, (by rw [if_neg (by decide)]; exact hC), (fun _ _ h => h), rfl⟩
  · intro s9 v9 vx w9 hs hv9 hC hF
    clear hF
    refine ⟨trivial, ?_⟩
    simp only [putsOf]
    exact opw_val (v := .int .i64 ((j : Int) + 1)) (w' := w9) (by go_simp <;> (simp only [IntKind.wrap_u64, IntKind.wrap_i64] <;> omega)) ⟨_, rfl, by simp, (by rw [if_neg (by decide)]; exact hC), (fun _ _ h => h), rfl⟩
  · intro s9 v9 vx w9 hs hv9 hC hF
    have q3 : (vx 3) = .slice (some ⟨b, 0, none⟩) (j + 1 + m) cap := hF (23, 3) (by simp)
    have q4 : (vx 4) = .int .i64 ((j : Int) + 1) := hF (24, 4) (by simp)
    clear hF
    refine ⟨trivial, ?_⟩
    simp only [putsOf, q3, q4]
    exact opw_sliceAt (j + 1) (j + 1 + m) Try.underlying47 ofSize rfl (.inr ⟨.i64, _, rfl, rfl⟩) (.inl ⟨rfl, rfl⟩) (by omega) (by omega) o ho'.out ⟨_, rfl, by simp, (by rw [if_neg (by decide)]; exact hC), (fun _ _ h => h), rfl⟩
  · intro s9 v9 vx w9 hs hv9 hC hF
    have q2 : (vx 2) = .slice (some ⟨b, 0, none⟩) j cap := hF (22, 2) (by simp)
    have q5 : (vx 5) = .slice (some ⟨b, o, none⟩) (j + 1 + m - (j + 1)) (cap - (j + 1)) := hF (25, 5) (by simp)
    clear hF
    obtain rfl : s9 = 0 := by have h9 := hs (by decide); rcases s9 with _ | _ | _ | _ | s9 <;> simp at h9 <;> rfl
    refine ⟨trivial, ?_⟩
    simp only [putsOf, q2, q5]
    have H9 : St S w0 (LL.set q (.blk b 51 (xs ++ more))) w9 := hC
    have hs9 : SlAt w9 (some ⟨b, o, none⟩) news := by rw [hnews1.out]; exact ((H9.blk hq1'.out).sl o).take _
    have h2 := hlen'.out
    have h3 := hcl'.out
    have h5 : news.length = m * 33 := by rw [hnews2.out, List.length_drop, h2]; omega
    rw [show j + 1 + m - (j + 1) = m by omega]
    refine opw_appendIn (k := q) (n := j) (m := m) H9 hq1'.out Try.underlying47 Try.underlying47 ofSize rfl rfl hs9 h5 (fun u hu => hone.out u (by rw [hnews2.out] at hu; exact List.mem_of_mem_drop hu)) (by omega) (by rw [h3]; omega) ?_
    intro w4 H4
    rw [List.set_set] at H4
    exact ⟨_, rfl, by simp, (by rw [if_pos (by decide)]; exact H4), (fun _ _ h => regF_const (by simp [allConst, Const.eq, Const.true]) h), rfl⟩
  · intro s9 v9 vx w9 hs hv9 hC hF
    have q6 : (vx 6) = .slice (some ⟨b, 0, none⟩) (j + m) cap := hF (26, 6) (by simp)
    have q0 : (vx 0) = .slice (some ⟨b, 0, none⟩) (j + 1 + m) cap := hF (20, 0) (by simp)
    have q1 : (vx 1) = .int .i64 j := hF (21, 1) (by simp)
    have q2 : (vx 2) = .slice (some ⟨b, 0, none⟩) j cap := hF (22, 2) (by simp)
    have q3 : (vx 3) = .slice (some ⟨b, 0, none⟩) (j + 1 + m) cap := hF (23, 3) (by simp)
    have q4 : (vx 4) = .int .i64 ((j : Int) + 1) := hF (24, 4) (by simp)
    have q5 : (vx 5) = .slice (some ⟨b, o, none⟩) (j + 1 + m - (j + 1)) (cap - (j + 1)) := hF (25, 5) (by simp)
    clear hF
    refine ⟨trivial, ?_⟩
    simp only [putsOf, q6, q0, q1, q2, q3, q4, q5]
    exact opw_val (v := .slice (some ⟨b, 0, none⟩) (j + m) cap) (w' := w9) (by go_simp <;> (simp only [IntKind.wrap_u64, IntKind.wrap_i64] <;> omega)) ⟨_, rfl, by simp, (by rw [if_neg (by decide)]; exact hC), (fun _ _ h => h), rfl⟩
  intro vx w9 hC hF
  have q0 : (vx 0) = .slice (some ⟨b, 0, none⟩) (j + 1 + m) cap := hF 0 (by simp)
  have q1 : (vx 1) = .int .i64 j := hF 1 (by simp)
  have q2 : (vx 2) = .slice (some ⟨b, 0, none⟩) j cap := hF 2 (by simp)
  have q3 : (vx 3) = .slice (some ⟨b, 0, none⟩) (j + 1 + m) cap := hF 3 (by simp)
  have q4 : (vx 4) = .int .i64 ((j : Int) + 1) := hF 4 (by simp)
  have q5 : (vx 5) = .slice (some ⟨b, o, none⟩) (j + 1 + m - (j + 1)) (cap - (j + 1)) := hF 5 (by simp)
  have q6 : (vx 6) = .slice (some ⟨b, 0, none⟩) (j + m) cap := hF 6 (by simp)
  have q7 : (vx 7) = .slice (some ⟨b, 0, none⟩) (j + m) cap := hF 7 (by simp)
  clear hF
  simp only [putsOf, q0, q1, q2, q3, q4, q5, q6, q7]
  simp only [Act.put, List.setIfInBounds_toArray, List.set_cons_succ, List.set_cons_zero]
  clear q0 q1 q2 q3 q4 q5 q6 q7
  have H2 : St S w0 (LL.set q (.blk b 51 (splice (xs ++ more) (j * 33) news))) w9 := hC
  clear hC
  go_wp2_with (first | (with_reducible refine stop_box ?_) | (with_reducible refine stop_alloc ?_) | (with_reducible refine stop_load ?_) | (with_reducible refine stop_store ?_) | (with_reducible refine stop_make ?_) | (with_reducible refine stop_lit ?_) | (with_reducible refine stop_append ?_) | (with_reducible refine stop_copy ?_) | (with_reducible refine stop_map ?_) | (with_reducible refine stop_lookup ?_) | (with_reducible refine stop_update ?_) | (with_reducible refine stop_delete ?_) | (with_reducible refine stop_clear ?_) | (with_reducible refine stop_arr ?_) | (with_reducible refine stop_idx ?_) | (with_reducible refine stop_slice ?_) | ((with_reducible refine stopg_box ?hw ?_); case hw => rfl) | ((with_reducible refine stopg_alloc ?hw ?_); case hw => rfl) | ((with_reducible refine stopg_load ?hw ?_); case hw => rfl) | ((with_reducible refine stopg_store ?hw ?_); case hw => rfl) | ((with_reducible refine stopg_make ?hw ?_); case hw => rfl) | ((with_reducible refine stopg_lit ?hw ?_); case hw => rfl) | ((with_reducible refine stopg_append ?hw ?_); case hw => rfl) | ((with_reducible refine stopg_copy ?hw ?_); case hw => rfl) | ((with_reducible refine stopg_map ?hw ?_); case hw => rfl) | ((with_reducible refine stopg_lookup ?hw ?_); case hw => rfl) | ((with_reducible refine stopg_update ?hw ?_); case hw => rfl) | ((with_reducible refine stopg_delete ?hw ?_); case hw => rfl) | ((with_reducible refine stopg_clear ?hw ?_); case hw => rfl) | ((with_reducible refine stopg_arr ?hw ?_); case hw => rfl) | ((with_reducible refine stopg_slice ?hw ?_); case hw => rfl) | ((with_reducible refine stopg_idx ?hw ?_); case hw => rfl))
  have h2 := hlen'.out
  have h3 := hcl'.out
  have h5 : news.length = m * 33 := by rw [hnews2.out, List.length_drop, h2]; omega
  have hsl : (splice (xs ++ more) (j * 33) news).length = cap * 33 := by simp only [splice, List.length_append, List.length_take, List.length_drop] at h3 ⊢; omega
  have hsl' := Lib.hid hsl
  have h5' := Lib.hid h5
  clear hsl h2 h3 h5
  have hset : ∀ r : Res, (LL.set q r)[q]? = some r := fun r => by simp [hlt]
  have hset' := Lib.hid hset
  clear hset
  refine wpl_want rfl (opw_sliceAt (j + m) (j + 1 + m) Try.underlying47 ofSize rfl (.inr ⟨.i64, _, rfl, rfl⟩) (.inr ⟨.i64, _, rfl, rfl⟩) (by omega) (by omega) ((j + m) * 33) (by rw [if_neg (by omega)]) ?_)
  rw [show j + 1 + m - (j + m) = 1 by omega]
  go_wp2_with (first | (with_reducible refine stop_box ?_) | (with_reducible refine stop_alloc ?_) | (with_reducible refine stop_load ?_) | (with_reducible refine stop_store ?_) | (with_reducible refine stop_make ?_) | (with_reducible refine stop_lit ?_) | (with_reducible refine stop_append ?_) | (with_reducible refine stop_copy ?_) | (with_reducible refine stop_map ?_) | (with_reducible refine stop_lookup ?_) | (with_reducible refine stop_update ?_) | (with_reducible refine stop_delete ?_) | (with_reducible refine stop_clear ?_) | (with_reducible refine stop_arr ?_) | (with_reducible refine stop_idx ?_) | (with_reducible refine stop_slice ?_) | ((with_reducible refine stopg_box ?hw ?_); case hw => rfl) | ((with_reducible refine stopg_alloc ?hw ?_); case hw => rfl) | ((with_reducible refine stopg_load ?hw ?_); case hw => rfl) | ((with_reducible refine stopg_store ?hw ?_); case hw => rfl) | ((with_reducible refine stopg_make ?hw ?_); case hw => rfl) | ((with_reducible refine stopg_lit ?hw ?_); case hw => rfl) | ((with_reducible refine stopg_append ?hw ?_); case hw => rfl) | ((with_reducible refine stopg_copy ?hw ?_); case hw => rfl) | ((with_reducible refine stopg_map ?hw ?_); case hw => rfl) | ((with_reducible refine stopg_lookup ?hw ?_); case hw => rfl) | ((with_reducible refine stopg_update ?hw ?_); case hw => rfl) | ((with_reducible refine stopg_delete ?hw ?_); case hw => rfl) | ((with_reducible refine stopg_clear ?hw ?_); case hw => rfl) | ((with_reducible refine stopg_arr ?hw ?_); case hw => rfl) | ((with_reducible refine stopg_slice ?hw ?_); case hw => rfl) | ((with_reducible refine stopg_idx ?hw ?_); case hw => rfl))
  refine wpl_want rfl (opw_clear (n := 1) (k := q) (off := (j + m) * 33) H2 (hset'.out _) Try.underlying47 ofZero rfl rfl (by omega) (by have := hsl'.out; omega) (List.all_eq_true.1 (by kernel_rfl)) ?_)
  intro w3 H3
  rw [List.set_set] at H3
  go_wp2_with (first | (with_reducible refine stop_box ?_) | (with_reducible refine stop_alloc ?_) | (with_reducible refine stop_load ?_) | (with_reducible refine stop_store ?_) | (with_reducible refine stop_make ?_) | (with_reducible refine stop_lit ?_) | (with_reducible refine stop_append ?_) | (with_reducible refine stop_copy ?_) | (with_reducible refine stop_map ?_) | (with_reducible refine stop_lookup ?_) | (with_reducible refine stop_update ?_) | (with_reducible refine stop_delete ?_) | (with_reducible refine stop_clear ?_) | (with_reducible refine stop_arr ?_) | (with_reducible refine stop_idx ?_) | ((with_reducible refine stopg_box ?hw ?_); case hw => rfl) | ((with_reducible refine stopg_alloc ?hw ?_); case hw => rfl) | ((with_reducible refine stopg_load ?hw ?_); case hw => rfl) | ((with_reducible refine stopg_store ?hw ?_); case hw => rfl) | ((with_reducible refine stopg_make ?hw ?_); case hw => rfl) | ((with_reducible refine stopg_lit ?hw ?_); case hw => rfl) | ((with_reducible refine stopg_append ?hw ?_); case hw => rfl) | ((with_reducible refine stopg_copy ?hw ?_); case hw => rfl) | ((with_reducible refine stopg_map ?hw ?_); case hw => rfl) | ((with_reducible refine stopg_lookup ?hw ?_); case hw => rfl) | ((with_reducible refine stopg_update ?hw ?_); case hw => rfl) | ((with_reducible refine stopg_delete ?hw ?_); case hw => rfl) | ((with_reducible refine stopg_clear ?hw ?_); case hw => rfl) | ((with_reducible refine stopg_arr ?hw ?_); case hw => rfl) | ((with_reducible refine stopg_idx ?hw ?_); case hw => rfl))
  go_ret
  have h2 := hlen'.out
  have h3 := hcl'.out
  have h5 := h5'.out
  have h6 := hsl'.out
  have hz : (Builtin.zeroCells (Value.agg ((List.replicate 32 (Value.int .u8 0)) ++ [Value.int .i64 0]).toArray).cells 1).toList.length = 33 := by kernel_rfl
  obtain ⟨zs, hzs⟩ : ∃ zs, zs = (Builtin.zeroCells (Value.agg ((List.replicate 32 (Value.int .u8 0)) ++ [Value.int .i64 0]).toArray).cells 1).toList := ⟨_, rfl⟩
  rw [← hzs] at H3 hz
  have hgot := H3.blk (k := q) (hset'.out _)
  have hx : splice (splice (xs ++ more) (j * 33) news) ((j + m) * 33) zs = (xs.take (j * 33) ++ xs.drop ((j + 1) * 33)) ++ (zs ++ (splice (xs ++ more) (j * 33) news).drop ((j + m) * 33 + 33)) := by
    have e1 : splice (xs ++ more) (j * 33) news = (xs.take (j * 33) ++ news) ++ (xs ++ more).drop (j * 33 + news.length) := by
      unfold splice
      rw [List.take_append_of_le_length (by omega), List.append_assoc]
    have e2 : (xs.take (j * 33) ++ news).length = (j + m) * 33 := by simp; omega
    have e3 : (splice (xs ++ more) (j * 33) news).take ((j + m) * 33) = xs.take (j * 33) ++ news := by rw [e1, List.take_left' e2]
    show List.take ((j + m) * 33) (splice (xs ++ more) (j * 33) news) ++ (zs ++ List.drop ((j + m) * 33 + zs.length) (splice (xs ++ more) (j * 33) news)) = _
    rw [e3, hz, hnews2.out]
  rw [hx] at hgot
  refine ⟨_, rfl, ?_⟩
  have H4 := H3.as (k := q) (r' := .row 51 33 (.slice (some ⟨b, 0, none⟩) (j + m) cap) (j + 1 + m - 1) (xs.take (j * 33) ++ xs.drop ((j + 1) * 33))) (hset'.out _) ?_ rfl
  · rwa [List.set_set] at H4
  · rw [show j + 1 + m - 1 = j + m by omega]
    refine ⟨by simp; omega, .inr ⟨b, cap, _, rfl, by omega, hcm, ?_, hgot⟩⟩
    rw [← hx]
    simp only [splice, List.length_append, List.length_take, List.length_drop] at h6 ⊢
    omega
end Go.Proofs.Ytngdppffcdhhlaa
