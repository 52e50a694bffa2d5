/- Words and laws that the proofs of this seat share, part 3 of 3. No condition. -/
import Derived.Test.YtadaihpeionniaaQ19qb
section
namespace Go.Proofs.Ytadaihpeionniaa
open Go.RowKit Go.PBYtadaihpeionniaa
set_option linter.unusedVariables false
set_option linter.unusedSimpArgs false
set_option maxRecDepth 10000
theorem ofSize : (Try.prog.info? 52).map (·.size) = some 138 := by kernel_rfl
theorem ofZero : (Try.prog.info? 52).map (fun i => (i.zero, i.size)) = some (some (Value.agg ([Value.int .i64 0] ++ (([Value.int .i64 0, .int .i64 0] ++ (List.replicate 32 (Value.int .u8 0) ++ ((List.replicate 32 (Value.int .u8 0) ++ [Value.int .i64 0, .int .i64 0]) ++ [Value.slice none 0 0]))) ++ ([Value.int .i64 0, .int .i64 0, .int .i64 0, .int .i64 0] ++ (List.replicate 32 (Value.int .u8 0) ++ List.replicate 32 (Value.int .u8 0))))).toArray), 138) := by kernel_rfl
def DlC (S : List Nat) (w0 : World) (LL : List Res) (q b : Nat) (c0 c1 : List Value) (s : Nat) (w' : World) : Prop :=
  match s with
  | 0 => St S w0 (LL.set q (.blk b 52 c0)) w'
  | _ => St S w0 (LL.set q (.blk b 52 c1)) w'
set_option maxHeartbeats 1600000 in
theorem delete_calls {S : List Nat} {w0 w : World} {LL : List Res} {q n : Nat} {v : Value} {xs : List Value} (j : Nat) (H : St S w0 LL w) (hq : LL[q]? = some (.row 52 138 v n xs)) (hj : j < n) (h1 : ∀ u ∈ xs, u.oneCell' = true) :
    Calls Try.prog 18 #[v, .int .i64 j, .int .i64 ((j : Int) + 1)] w fun e w' => ∃ v', e = .returned v' ∧ St S w0 (LL.set q (.row 52 138 v' (n - 1) (xs.take (j * 138) ++ xs.drop ((j + 1) * 138)))) w' := by
  obtain ⟨hlen, hrow⟩ := H.get hq
  rcases hrow with ⟨rfl, rfl⟩ | ⟨b, cap, more, rfl, hnc, hcm, hcl, hblk⟩
  · omega
  have hlt : q < LL.length := (List.getElem?_eq_some_iff.1 hq).1
  have H1 := H.as hq (r' := .blk b 52 (xs ++ more)) hblk rfl
  have hq1 : (LL.set q (.blk b 52 (xs ++ more)))[q]? = some (.blk b 52 (xs ++ more)) := by simp [hlt]
  obtain ⟨m, hm⟩ : ∃ m, n = j + 1 + m := ⟨n - (j + 1), by omega⟩
  subst hm
  have hlen' := Lib.hid hlen
  have hcl' := Lib.hid hcl
  have hone := Lib.hid h1
  have hq1' := Lib.hid hq1
  clear hlen hcl h1 hq1 hblk hq H
  have hne : ((j : Int) == (j : Int) + 1) = false := by rw [beq_eq_false_iff_ne]; omega
  obtain ⟨o, ho⟩ : ∃ o, o = if cap = j + 1 then 0 else (j + 1) * 138 := ⟨_, rfl⟩
  have ho' := Lib.hid ho
  clear ho
  obtain ⟨news, hnews⟩ : ∃ news, news = ((xs ++ more).drop o).take (m * 138) := ⟨_, rfl⟩
  have hnews2 : Hid (news = xs.drop ((j + 1) * 138)) := by
    show _ = _
    have h2 := hlen'.out
    have h3 := hcl'.out
    by_cases hc : cap = j + 1
    · have : m = 0 := by omega
      subst this
      have h6 : xs.drop ((j + 1) * 138) = [] := List.drop_eq_nil_of_le (by rw [h2]; omega)
      rw [hnews, h6]
      simp
    · rw [hnews, ho'.out, if_neg hc, List.drop_append_of_le_length (by rw [h2]; omega), List.take_append_of_le_length (by rw [List.length_drop, h2]; omega), List.take_of_length_le (by rw [List.length_drop, h2]; omega)]
  have hnews1 := Lib.hid hnews
  clear hnews
  go_enter Try.func18, Try.ntmps18
  go_wp2_with (first | (with_reducible refine stop_box ?_) | (with_reducible refine stop_alloc ?_) | (with_reducible refine stop_load ?_) | (with_reducible refine stop_store ?_) | (with_reducible refine stop_make ?_) | (with_reducible refine stop_lit ?_) | (with_reducible refine stop_append ?_) | (with_reducible refine stop_copy ?_) | (with_reducible refine stop_map ?_) | (with_reducible refine stop_lookup ?_) | (with_reducible refine stop_update ?_) | (with_reducible refine stop_delete ?_) | (with_reducible refine stop_clear ?_) | (with_reducible refine stop_arr ?_) | (with_reducible refine stop_idx ?_) | (with_reducible refine stop_slice ?_) | (with_reducible refine stop_conv (e := 34) (f := 9) ?_) | ((with_reducible refine stopg_box ?hw ?_); case hw => rfl) | ((with_reducible refine stopg_alloc ?hw ?_); case hw => rfl) | ((with_reducible refine stopg_load ?hw ?_); case hw => rfl) | ((with_reducible refine stopg_store ?hw ?_); case hw => rfl) | ((with_reducible refine stopg_make ?hw ?_); case hw => rfl) | ((with_reducible refine stopg_lit ?hw ?_); case hw => rfl) | ((with_reducible refine stopg_append ?hw ?_); case hw => rfl) | ((with_reducible refine stopg_copy ?hw ?_); case hw => rfl) | ((with_reducible refine stopg_map ?hw ?_); case hw => rfl) | ((with_reducible refine stopg_lookup ?hw ?_); case hw => rfl) | ((with_reducible refine stopg_update ?hw ?_); case hw => rfl) | ((with_reducible refine stopg_delete ?hw ?_); case hw => rfl) | ((with_reducible refine stopg_clear ?hw ?_); case hw => rfl) | ((with_reducible refine stopg_arr ?hw ?_); case hw => rfl) | ((with_reducible refine stopg_slice ?hw ?_); case hw => rfl) | ((with_reducible refine stopg_conv (e := 34) (f := 9) ?hw ?_); case hw => rfl) | ((with_reducible refine stopg_idx ?hw ?_); case hw => rfl))
  refine wpl_want rfl (opw_slice3 (l := j) (h := j + 1) (m := j + 1 + m) Try.underlying46 ofSize rfl rfl rfl rfl (by omega) (by omega) hnc (fun B => ?_))
  go_wp2_with (first | (with_reducible refine stop_box ?_) | (with_reducible refine stop_alloc ?_) | (with_reducible refine stop_load ?_) | (with_reducible refine stop_store ?_) | (with_reducible refine stop_make ?_) | (with_reducible refine stop_lit ?_) | (with_reducible refine stop_append ?_) | (with_reducible refine stop_copy ?_) | (with_reducible refine stop_map ?_) | (with_reducible refine stop_lookup ?_) | (with_reducible refine stop_update ?_) | (with_reducible refine stop_delete ?_) | (with_reducible refine stop_clear ?_) | (with_reducible refine stop_arr ?_) | (with_reducible refine stop_idx ?_) | (with_reducible refine stop_slice ?_) | (with_reducible refine stop_conv (e := 34) (f := 9) ?_) | ((with_reducible refine stopg_box ?hw ?_); case hw => rfl) | ((with_reducible refine stopg_alloc ?hw ?_); case hw => rfl) | ((with_reducible refine stopg_load ?hw ?_); case hw => rfl) | ((with_reducible refine stopg_store ?hw ?_); case hw => rfl) | ((with_reducible refine stopg_make ?hw ?_); case hw => rfl) | ((with_reducible refine stopg_lit ?hw ?_); case hw => rfl) | ((with_reducible refine stopg_append ?hw ?_); case hw => rfl) | ((with_reducible refine stopg_copy ?hw ?_); case hw => rfl) | ((with_reducible refine stopg_map ?hw ?_); case hw => rfl) | ((with_reducible refine stopg_lookup ?hw ?_); case hw => rfl) | ((with_reducible refine stopg_update ?hw ?_); case hw => rfl) | ((with_reducible refine stopg_delete ?hw ?_); case hw => rfl) | ((with_reducible refine stopg_clear ?hw ?_); case hw => rfl) | ((with_reducible refine stopg_arr ?hw ?_); case hw => rfl) | ((with_reducible refine stopg_slice ?hw ?_); case hw => rfl) | ((with_reducible refine stopg_conv (e := 34) (f := 9) ?hw ?_); case hw => rfl) | ((with_reducible refine stopg_idx ?hw ?_); case hw => rfl))
  refine wp_region_chain (n := 33) [6] (fun s v w' => DlC S w0 LL q b (xs ++ more) (splice (xs ++ more) (j * 138) news) s w') (regF [fun v _ => v = .slice (some ⟨b, 0, none⟩) (j + 1 + m) cap, fun v _ => v = .int .i64 j, fun v _ => v = .slice (some ⟨b, 0, none⟩) j cap, fun v _ => v = .slice (some ⟨b, 0, none⟩) (j + 1 + m) cap, fun v _ => v = .int .i64 ((j : Int) + 1), fun v _ => v = .slice (some ⟨b, o, none⟩) (j + 1 + m - (j + 1)) (cap - (j + 1)), fun v _ => v = .slice (some ⟨b, 0, none⟩) (j + m) cap, fun v _ => v = .slice (some ⟨b, 0, none⟩) (j + m) cap]) [[], [], [(20, 0), (21, 1)], [], [], [(23, 3), (24, 4)], [(22, 2), (25, 5)], [(26, 6), (20, 0), (21, 1), (22, 2), (23, 3), (24, 4), (25, 5)]] [(20, 0), (21, 1), (22, 2), (23, 3), (24, 4), (25, 5), (26, 6), (0, 7)] (by kernel_rfl) (by kernel_rfl) rfl H1.drew ⟨?_, ?_, ?_, ?_, ?_, ?_, ?_, ?_, trivial⟩ ?_
  · intro s9 v9 vx w9 hs hv9 hC hF
    clear hF
    refine ⟨trivial, ?_⟩
    simp only [putsOf]
    exact opw_val (v := .slice (some ⟨b, 0, none⟩) (j + 1 + m) cap) (w' := w9) (by go_simp <;> (simp only [IntKind.wrap_u64, IntKind.wrap_i64] <;> omega)) ⟨_, rfl, by simp, (by rw [if_neg (by decide)]; exact hC), (fun _ _ h => h), rfl⟩
  · intro s9 v9 vx w9 hs hv9 hC hF
    clear hF
    refine ⟨trivial, ?_⟩
    simp only [putsOf]
    exact opw_val (v := .int .i64 j) (w' := w9) (by go_simp <;> (simp only [IntKind.wrap_u64, IntKind.wrap_i64] <;> omega)) ⟨_, rfl, by simp, (by rw [if_neg (by decide)]; exact hC), (fun _ _ h => h), rfl⟩
  · intro s9 v9 vx w9 hs hv9 hC hF
    have q0 : (vx 0) = .slice (some ⟨b, 0, none⟩) (j + 1 + m) cap := hF (20, 0) (by simp)
    have q1 : (vx 1) = .int .i64 j := hF (21, 1) (by simp)
    clear hF
    refine ⟨trivial, ?_⟩
    simp only [putsOf, q0, q1]
    exact opw_sliceAt 0 j Try.underlying46 ofSize rfl (.inl ⟨rfl, rfl⟩) (.inr ⟨.i64, _, rfl, rfl⟩) (by omega) (by omega) 0 (by split <;> omega) ⟨_, rfl, by simp, (by rw [if_neg (by decide)]; exact hC), (fun _ _ h => h), rfl⟩
  · intro s9 v9 vx w9 hs hv9 hC hF
    clear hF
    refine ⟨trivial, ?_⟩
    simp only [putsOf]
    exact opw_val (v := .slice (some ⟨b, 0, none⟩) (j + 1 + m) cap) (w' := w9) (by go_simp <;> (simp only [IntKind.wrap_u64, IntKind.wrap_i64] <;> omega)) ⟨_, rfl, by simp, (by rw [if_neg (by decide)]; exact hC), (fun _ _ h => h), rfl⟩
  · intro s9 v9 vx w9 hs hv9 hC hF
    clear hF
    refine ⟨trivial, ?_⟩
    simp only [putsOf]
    exact opw_val (v := .int .i64 ((j : Int) + 1)) (w' := w9) (by go_simp <;> (simp only [IntKind.wrap_u64, IntKind.wrap_i64] <;> omega)) ⟨_, rfl, by simp, (by rw [if_neg (by decide)]; exact hC), (fun _ _ h => h), rfl⟩
  · intro s9 v9 vx w9 hs hv9 hC hF
    have q3 : (vx 3) = .slice (some ⟨b, 0, none⟩) (j + 1 + m) cap := hF (23, 3) (by simp)
    have q4 : (vx 4) = .int .i64 ((j : Int) + 1) := hF (24, 4) (by simp)
    clear hF
    refine ⟨trivial, ?_⟩
    simp only [putsOf, q3, q4]
    exact opw_sliceAt (j + 1) (j + 1 + m) Try.underlying46 ofSize rfl (.inr ⟨.i64, _, rfl, rfl⟩) (.inl ⟨rfl, rfl⟩) (by omega) (by omega) o ho'.out ⟨_, rfl, by simp, (by rw [if_neg (by decide)]; exact hC), (fun _ _ h => h), rfl⟩
  · intro s9 v9 vx w9 hs hv9 hC hF
    have q2 : (vx 2) = .slice (some ⟨b, 0, none⟩) j cap := hF (22, 2) (by simp)
    have q5 : (vx 5) = .slice (some ⟨b, o, none⟩) (j + 1 + m - (j + 1)) (cap - (j + 1)) := hF (25, 5) (by simp)
    clear hF
    obtain rfl : s9 = 0 := by have h9 := hs (by decide); rcases s9 with _ | _ | _ | _ | s9 <;> simp at h9 <;> rfl
    refine ⟨trivial, ?_⟩
    simp only [putsOf, q2, q5]
    have H9 : St S w0 (LL.set q (.blk b 52 (xs ++ more))) w9 := hC
    have hs9 : SlAt w9 (some ⟨b, o, none⟩) news := by rw [hnews1.out]; exact ((H9.blk hq1'.out).sl o).take _
    have h2 := hlen'.out
    have h3 := hcl'.out
    have h5 : news.length = m * 138 := by rw [hnews2.out, List.length_drop, h2]; omega
    rw [show j + 1 + m - (j + 1) = m by omega]
    refine opw_appendIn (k := q) (n := j) (m := m) H9 hq1'.out Try.underlying46 Try.underlying46 ofSize rfl rfl hs9 h5 (fun u hu => hone.out u (by rw [hnews2.out] at hu; exact List.mem_of_mem_drop hu)) (by omega) (by rw [h3]; omega) ?_
    intro w4 H4
    rw [List.set_set] at H4
    exact ⟨_, rfl, by simp, (by rw [if_pos (by decide)]; exact H4), (fun _ _ h => regF_const (by simp [allConst, Const.eq, Const.true]) h), rfl⟩
  · intro s9 v9 vx w9 hs hv9 hC hF
    have q6 : (vx 6) = .slice (some ⟨b, 0, none⟩) (j + m) cap := hF (26, 6) (by simp)
    have q0 : (vx 0) = .slice (some ⟨b, 0, none⟩) (j + 1 + m) cap := hF (20, 0) (by simp)
    have q1 : (vx 1) = .int .i64 j := hF (21, 1) (by simp)
    have q2 : (vx 2) = .slice (some ⟨b, 0, none⟩) j cap := hF (22, 2) (by simp)
    have q3 : (vx 3) = .slice (some ⟨b, 0, none⟩) (j + 1 + m) cap := hF (23, 3) (by simp)
    have q4 : (vx 4) = .int .i64 ((j : Int) + 1) := hF (24, 4) (by simp)
    have q5 : (vx 5) = .slice (some ⟨b, o, none⟩) (j + 1 + m - (j + 1)) (cap - (j + 1)) := hF (25, 5) (by simp)
    clear hF
    refine ⟨trivial, ?_⟩
    simp only [putsOf, q6, q0, q1, q2, q3, q4, q5]
    exact opw_val (v := .slice (some ⟨b, 0, none⟩) (j + m) cap) (w' := w9) (by go_simp <;> (simp only [IntKind.wrap_u64, IntKind.wrap_i64] <;> omega)) ⟨_, rfl, by simp, (by rw [if_neg (by decide)]; exact hC), (fun _ _ h => h), rfl⟩
  intro vx w9 hC hF
  have q0 : (vx 0) = .slice (some ⟨b, 0, none⟩) (j + 1 + m) cap := hF 0 (by simp)
  have q1 : (vx 1) = .int .i64 j := hF 1 (by simp)
  have q2 : (vx 2) = .slice (some ⟨b, 0, none⟩) j cap := hF 2 (by simp)
  have q3 : (vx 3) = .slice (some ⟨b, 0, none⟩) (j + 1 + m) cap := hF 3 (by simp)
  have q4 : (vx 4) = .int .i64 ((j : Int) + 1) := hF 4 (by simp)
  have q5 : (vx 5) = .slice (some ⟨b, o, none⟩) (j + 1 + m - (j + 1)) (cap - (j + 1)) := hF 5 (by simp)
  have q6 : (vx 6) = .slice (some ⟨b, 0, none⟩) (j + m) cap := hF 6 (by simp)
  have q7 : (vx 7) = .slice (some ⟨b, 0, none⟩) (j + m) cap := hF 7 (by simp)
  clear hF
  simp only [putsOf, q0, q1, q2, q3, q4, q5, q6, q7]
  simp only [Act.put, List.setIfInBounds_toArray, List.set_cons_succ, List.set_cons_zero]
  clear q0 q1 q2 q3 q4 q5 q6 q7
  have H2 : St S w0 (LL.set q (.blk b 52 (splice (xs ++ more) (j * 138) news))) w9 := hC
  clear hC
  go_wp2_with (first | (with_reducible refine stop_box ?_) | (with_reducible refine stop_alloc ?_) | (with_reducible refine stop_load ?_) | (with_reducible refine stop_store ?_) | (with_reducible refine stop_make ?_) | (with_reducible refine stop_lit ?_) | (with_reducible refine stop_append ?_) | (with_reducible refine stop_copy ?_) | (with_reducible refine stop_map ?_) | (with_reducible refine stop_lookup ?_) | (with_reducible refine stop_update ?_) | (with_reducible refine stop_delete ?_) | (with_reducible refine stop_clear ?_) | (with_reducible refine stop_arr ?_) | (with_reducible refine stop_idx ?_) | (with_reducible refine stop_slice ?_) | (with_reducible refine stop_conv (e := 34) (f := 9) ?_) | ((with_reducible refine stopg_box ?hw ?_); case hw => rfl) | ((with_reducible refine stopg_alloc ?hw ?_); case hw => rfl) | ((with_reducible refine stopg_load ?hw ?_); case hw => rfl) | ((with_reducible refine stopg_store ?hw ?_); case hw => rfl) | ((with_reducible refine stopg_make ?hw ?_); case hw => rfl) | ((with_reducible refine stopg_lit ?hw ?_); case hw => rfl) | ((with_reducible refine stopg_append ?hw ?_); case hw => rfl) | ((with_reducible refine stopg_copy ?hw ?_); case hw => rfl) | ((with_reducible refine stopg_map ?hw ?_); case hw => rfl) | ((with_reducible refine stopg_lookup ?hw ?_); case hw => rfl) | ((with_reducible refine stopg_update ?hw ?_); case hw => rfl) | ((with_reducible refine stopg_delete ?hw ?_); case hw => rfl) | ((with_reducible refine stopg_clear ?hw ?_); case hw => rfl) | ((with_reducible refine stopg_arr ?hw ?_); case hw => rfl) | ((with_reducible refine stopg_slice ?hw ?_); case hw => rfl) | ((with_reducible refine stopg_conv (e := 34) (f := 9) ?hw ?_); case hw => rfl) | ((with_reducible refine stopg_idx ?hw ?_); case hw => rfl))
  have h2 := hlen'.out
  have h3 := hcl'.out
  have h5 : news.length = m * 138 := by rw [hnews2.out, List.length_drop, h2]; omega
  have hsl : (splice (xs ++ more) (j * 138) news).length = cap * 138 := by simp only [splice, List.length_append, List.length_take, List.length_drop] at h3 ⊢; omega
  have hsl' := Lib.hid hsl
  have h5' := Lib.hid h5
  clear hsl h2 h3 h5
  have hset : ∀ r : Res, (LL.set q r)[q]? = some r := fun r => by simp [hlt]
  have hset' := Lib.hid hset
  clear hset
  refine wpl_want rfl (opw_sliceAt (j + m) (j + 1 + m) Try.underlying46 ofSize rfl (.inr ⟨.i64, _, rfl, rfl⟩) (.inr ⟨.i64, _, rfl, rfl⟩) (by omega) (by omega) ((j + m) * 138) (by rw [if_neg (by omega)]) ?_)
  rw [show j + 1 + m - (j + m) = 1 by omega]
  go_wp2_with (first | (with_reducible refine stop_box ?_) | (with_reducible refine stop_alloc ?_) | (with_reducible refine stop_load ?_) | (with_reducible refine stop_store ?_) | (with_reducible refine stop_make ?_) | (with_reducible refine stop_lit ?_) | (with_reducible refine stop_append ?_) | (with_reducible refine stop_copy ?_) | (with_reducible refine stop_map ?_) | (with_reducible refine stop_lookup ?_) | (with_reducible refine stop_update ?_) | (with_reducible refine stop_delete ?_) | (with_reducible refine stop_clear ?_) | (with_reducible refine stop_arr ?_) | (with_reducible refine stop_idx ?_) | (with_reducible refine stop_slice ?_) | (with_reducible refine stop_conv (e := 34) (f := 9) ?_) | ((with_reducible refine stopg_box ?hw ?_); case hw => rfl) | ((with_reducible refine stopg_alloc ?hw ?_); case hw => rfl) | ((with_reducible refine stopg_load ?hw ?_); case hw => rfl) | ((with_reducible refine stopg_store ?hw ?_); case hw => rfl) | ((with_reducible refine stopg_make ?hw ?_); case hw => rfl) | ((with_reducible refine stopg_lit ?hw ?_); case hw => rfl) | ((with_reducible refine stopg_append ?hw ?_); case hw => rfl) | ((with_reducible refine stopg_copy ?hw ?_); case hw => rfl) | ((with_reducible refine stopg_map ?hw ?_); case hw => rfl) | ((with_reducible refine stopg_lookup ?hw ?_); case hw => rfl) | ((with_reducible refine stopg_update ?hw ?_); case hw => rfl) | ((with_reducible refine stopg_delete ?hw ?_); case hw => rfl) | ((with_reducible refine stopg_clear ?hw ?_); case hw => rfl) | ((with_reducible refine stopg_arr ?hw ?_); case hw => rfl) | ((with_reducible refine stopg_slice ?hw ?_); case hw => rfl) | ((with_reducible refine stopg_conv (e := 34) (f := 9) ?hw ?_); case hw => rfl) | ((with_reducible refine stopg_idx ?hw ?_); case hw => rfl))
  refine wpl_want rfl (opw_clear (n := 1) (k := q) (off := (j + m) * 138) H2 (hset'.out _) Try.underlying46 ofZero rfl rfl (by omega) (by have := hsl'.out; omega) (List.all_eq_true.1 (by kernel_rfl)) ?_)
  intro w3 H3
  rw [List.set_set] at H3
  go_wp2_with (first | (with_reducible refine stop_box ?_) | (with_reducible refine stop_alloc ?_) | (with_reducible refine stop_load ?_) | (with_reducible refine stop_store ?_) | (with_reducible refine stop_make ?_) | (with_reducible refine stop_lit ?_) | (with_reducible refine stop_append ?_) | (with_reducible refine stop_copy ?_) | (with_reducible refine stop_map ?_) | (with_reducible refine stop_lookup ?_) | (with_reducible refine stop_update ?_) | (with_reducible refine stop_delete ?_) | (with_reducible refine stop_clear ?_) | (with_reducible refine stop_arr ?_) | (with_reducible refine stop_idx ?_) | (with_reducible refine stop_conv (e := 34) (f := 9) ?_) | ((with_reducible refine stopg_box ?hw ?_); case hw => rfl) | ((with_reducible refine stopg_alloc ?hw ?_); case hw => rfl) | ((with_reducible refine stopg_load ?hw ?_); case hw => rfl) | ((with_reducible refine stopg_store ?hw ?_); case hw => rfl) | ((with_reducible refine stopg_make ?hw ?_); case hw => rfl) | ((with_reducible refine stopg_lit ?hw ?_); case hw => rfl) | ((with_reducible refine stopg_append ?hw ?_); case hw => rfl) | ((with_reducible refine stopg_copy ?hw ?_); case hw => rfl) | ((with_reducible refine stopg_map ?hw ?_); case hw => rfl) | ((with_reducible refine stopg_lookup ?hw ?_); case hw => rfl) | ((with_reducible refine stopg_update ?hw ?_); case hw => rfl) | ((with_reducible refine stopg_delete ?hw ?_); case hw => rfl) | ((with_reducible refine stopg_clear ?hw ?_); case hw => rfl) | ((with_reducible refine stopg_arr ?hw ?_); case hw => rfl) | ((with_reducible refine stopg_conv (e := 34) (f := 9) ?hw ?_); case hw => rfl) | ((with_reducible refine stopg_idx ?hw ?_); case hw => rfl))
  go_ret
  have h2 := hlen'.out
  have h3 := hcl'.out
  have h5 := h5'.out
  have h6 := hsl'.out
  have hz : (Builtin.zeroCells (Value.agg ([Value.int .i64 0] ++ (([Value.int .i64 0, .int .i64 0] ++ (List.replicate 32 (Value.int .u8 0) ++ ((List.replicate 32 (Value.int .u8 0) ++ [Value.int .i64 0, .int .i64 0]) ++ [Value.slice none 0 0]))) ++ ([Value.int .i64 0, .int .i64 0, .int .i64 0, .int .i64 0] ++ (List.replicate 32 (Value.int .u8 0) ++ List.replicate 32 (Value.int .u8 0))))).toArray).cells 1).toList.length = 138 := by kernel_rfl
  obtain ⟨zs, hzs⟩ : ∃ zs, zs = (Builtin.zeroCells (Value.agg ([Value.int .i64 0] ++ (([Value.int .i64 0, .int .i64 0] ++ (List.replicate 32 (Value.int .u8 0) ++ ((List.replicate 32 (Value.int .u8 0) ++ [Value.int .i64 0, .int .i64 0]) ++ [Value.slice none 0 0]))) ++ ([Value.int .i64 0, .int .i64 0, .int .i64 0, .int .i64 0] ++ (List.replicate 32 (Value.int .u8 0) ++ List.replicate 32 (Value.int .u8 0))))).toArray).cells 1).toList := ⟨_, rfl⟩
  rw [← hzs] at H3 hz
  have hgot := H3.blk (k := q) (hset'.out _)
  have hx : splice (splice (xs ++ more) (j * 138) news) ((j + m) * 138) zs = (xs.take (j * 138) ++ xs.drop ((j + 1) * 138)) ++ (zs ++ (splice (xs ++ more) (j * 138) news).drop ((j + m) * 138 + 138)) := by
    have e1 : splice (xs ++ more) (j * 138) news = (xs.take (j * 138) ++ news) ++ (xs ++ more).drop (j * 138 + news.length) := by
      unfold splice
      rw [List.take_append_of_le_length (by omega), List.append_assoc]
    have e2 : (xs.take (j * 138) ++ news).length = (j + m) * 138 := by simp; omega
    have e3 : (splice (xs ++ more) (j * 138) news).take ((j + m) * 138) = xs.take (j * 138) ++ news := by rw [e1, List.take_left' e2]
    show List.take ((j + m) * 138) (splice (xs ++ more) (j * 138) news) ++ (zs ++ List.drop ((j + m) * 138 + zs.length) (splice (xs ++ more) (j * 138) news)) = _
    rw [e3, hz, hnews2.out]
  rw [hx] at hgot
  refine ⟨_, rfl, ?_⟩
  have H4 := H3.as (k := q) (r' := .row 52 138 (.slice (some ⟨b, 0, none⟩) (j + m) cap) (j + 1 + m - 1) (xs.take (j * 138) ++ xs.drop ((j + 1) * 138))) (hset'.out _) ?_ rfl
  · rwa [List.set_set] at H4
  · rw [show j + 1 + m - 1 = j + m by omega]
    refine ⟨by simp; omega, .inr ⟨b, cap, _, rfl, by omega, hcm, ?_, hgot⟩⟩
    rw [← hx]
    simp only [splice, List.length_append, List.length_take, List.length_drop] at h6 ⊢
    omega
end Go.Proofs.Ytadaihpeionniaa
end
section
namespace Go.PBYtadaihpeionniaa
open Go Go.RowKit Go.ChangeShapes Go.WideShapes Go.ChangeAt Go.Deep
set_option linter.unusedSimpArgs false
set_option linter.unusedVariables false
theorem flatten_length {sz : Nat} : ∀ (vs : List (List Value)), (∀ u ∈ vs, u.length = sz) → vs.flatten.length = vs.length * sz
  | [], _ => by simp
  | u :: vs, h => by
    rw [List.flatten_cons, List.length_append, h u (by simp), flatten_length vs (fun x hx => h x (by simp [hx])), List.length_cons, Nat.succ_mul]
    omega
theorem flatten_part {sz : Nat} : ∀ (vs : List (List Value)) (i : Nat), (∀ u ∈ vs, u.length = sz) → i < vs.length → (vs.flatten.drop (i * sz)).take sz = vs.getD i []
  | [], i, _, h => by simp at h
  | u :: vs, 0, h, _ => by
    have := h u (by simp)
    rw [Nat.zero_mul, List.drop_zero, List.flatten_cons, List.take_left' this]
    rfl
  | u :: vs, i + 1, h, hi => by
    have he := h u (by simp)
    rw [List.flatten_cons, show (i + 1) * sz = sz + i * sz by rw [Nat.succ_mul]; omega, ← List.drop_drop, List.drop_left' he, flatten_part vs i (fun e' h' => h e' (by simp [h'])) (by simpa using hi)]
    simp
end Go.PBYtadaihpeionniaa
end
section
namespace Go.PBYtadaihpeionniaa
open Go Go.RowKit
set_option linter.unusedVariables false
set_option linter.unusedSimpArgs false
/-- a stamp -/
structure StD where
  e : Int
  f : Int
  t : Int
  ti : Int
  cm : List UInt8
  tg : List UInt8
structure StD.ok (x : StD) : Prop where
  cm : x.cm.length = 32
  tg : x.tg.length = 32
def stC (x : StD) : List Value := [vI x.e, vI x.f, vI x.t, vI x.ti] ++ (bys x.cm ++ bys x.tg)
/-- a mail, without the place of its body -/
structure Mm where
  id : Int
  X : EnvD
  s : StD
structure Mm.ok (m : Mm) : Prop where
  cm : m.X.cm.length = 32
  pub : m.X.pub.length = 32
  s : m.s.ok
abbrev Pl := Option Addr × Nat
def mailV (m : Mm) (sl : Value) : List Value := [vI m.id] ++ (envC m.X.f m.X.t m.X.cm m.X.pub m.X.p m.X.q sl ++ stC m.s)
def mailC (m : Mm) (x : Pl) : List Value := mailV m (.slice x.1 m.X.body.length x.2)
section
variable {m : Mm} {sl : Value}
theorem stC_length {x : StD} (h : x.ok) : (stC x).length = 68 := by simp [stC, bys_length, h.cm, h.tg]
theorem mEnv_len (h : m.ok) : (envC m.X.f m.X.t m.X.cm m.X.pub m.X.p m.X.q sl).length = 69 := (envC_f h.cm h.pub).len
theorem mailV_length (h : m.ok) : (mailV m sl).length = 138 := by
  rw [mailV, List.length_append, List.length_append, mEnv_len h, stC_length h.s]; rfl
theorem mailV_id : (mailV m sl)[0]? = some (vI m.id) := rfl
theorem mailV_sl (h : m.ok) : (mailV m sl)[69]? = some sl := by
  show (envC m.X.f m.X.t m.X.cm m.X.pub m.X.p m.X.q sl ++ stC m.s)[68]? = _
  rw [List.getElem?_append_left (by rw [mEnv_len h]; omega)]
  exact (envC_f h.cm h.pub).g4
theorem mailV_set (h : m.ok) (v : Value) : (mailV m sl).set 69 v = mailV m v := by
  have h1 : (bys m.X.cm).length = 32 := by rw [bys_length, h.cm]
  have h2 := headC_length h.pub m.X.p m.X.q
  have e1 : (envC m.X.f m.X.t m.X.cm m.X.pub m.X.p m.X.q sl).set 68 v = envC m.X.f m.X.t m.X.cm m.X.pub m.X.p m.X.q v := by
    show vI m.X.f :: vI m.X.t :: (bys m.X.cm ++ (headC m.X.pub m.X.p m.X.q ++ [sl])).set 66 v = _
    rw [List.set_append_right _ _ (by omega), List.set_append_right _ _ (by omega), h1, h2]
    rfl
  show vI m.id :: (envC m.X.f m.X.t m.X.cm m.X.pub m.X.p m.X.q sl ++ stC m.s).set 68 v = _
  rw [List.set_append_left _ _ (by rw [mEnv_len h]; omega), e1]
  rfl
theorem stC_one {x : StD} : ∀ u ∈ stC x, u.oneCell' = true := by
  intro u hu
  rcases List.mem_append.1 hu with h | h
  · exact one_all rfl u h
  · rcases List.mem_append.1 h with h | h
    · exact bys_one _ u h
    · exact bys_one _ u h
theorem mailV_one (hs : sl.oneCell' = true) : ∀ u ∈ mailV m sl, u.oneCell' = true := by
  intro u hu
  rcases List.mem_append.1 hu with h | h
  · rw [List.mem_singleton.1 h]; rfl
  · rcases List.mem_append.1 h with h | h
    · exact envC_one hs u h
    · exact stC_one u h
end
/-- mails with the places of their bodies -/
def mailsC (ms : List (Mm × Pl)) : List Value := (ms.map fun y => mailC y.1 y.2).flatten
section
variable {ms : List (Mm × Pl)} {j : Nat} {y : Mm × Pl}
theorem mails_all (h : ∀ y ∈ ms, y.1.ok) : ∀ u ∈ ms.map (fun y => mailC y.1 y.2), u.length = 138 := by
  intro u hu
  obtain ⟨x, hx, rfl⟩ := List.mem_map.1 hu
  exact mailV_length (h x hx)
theorem mailsC_length (h : ∀ y ∈ ms, y.1.ok) : (mailsC ms).length = ms.length * 138 := by
  unfold mailsC
  rw [flatten_length _ (mails_all h), List.length_map]
theorem mailsC_part (h : ∀ y ∈ ms, y.1.ok) (hj : ms[j]? = some y) : ((mailsC ms).drop (j * 138)).take 138 = mailC y.1 y.2 := by
  have hl := (List.getElem?_eq_some_iff.1 hj).1
  have := flatten_part (sz := 138) (ms.map fun y => mailC y.1 y.2) j (mails_all h) (by simpa using hl)
  unfold mailsC
  rw [this, List.getD_eq_getElem?_getD, List.getElem?_map, hj]
  rfl
theorem mailsC_append (L M : List (Mm × Pl)) : mailsC (L ++ M) = mailsC L ++ mailsC M := by simp [mailsC]
theorem mailsC_one (L : List (Mm × Pl)) : ∀ v ∈ mailsC L, v.oneCell' = true := by
  intro v hv
  obtain ⟨u, hu, hv⟩ := List.mem_flatten.1 hv
  obtain ⟨e, _, rfl⟩ := List.mem_map.1 hu
  exact mailV_one rfl v hv
theorem mails_take {j : Nat} (hj : j ≤ ms.length) (hok : ∀ x ∈ ms, x.1.ok) : mailsC (ms.take j) = (mailsC ms).take (j * 138) ∧ mailsC (ms.drop j) = (mailsC ms).drop (j * 138) := by
  have h1 : mailsC ms = mailsC (ms.take j) ++ mailsC (ms.drop j) := by rw [← mailsC_append, List.take_append_drop]
  have h2 : (mailsC (ms.take j)).length = j * 138 := by rw [mailsC_length (fun x hx => hok x (List.mem_of_mem_take hx)), List.length_take, Nat.min_eq_left hj]
  rw [h1, List.take_left' h2, List.drop_left' h2]
  exact ⟨rfl, rfl⟩
theorem mails_erase {j : Nat} (hj : j < ms.length) (hok : ∀ x ∈ ms, x.1.ok) : mailsC (ms.eraseIdx j) = (mailsC ms).take (j * 138) ++ (mailsC ms).drop ((j + 1) * 138) := by
  rw [List.eraseIdx_eq_take_drop_succ, mailsC_append, (mails_take (Nat.le_of_lt hj) hok).1, (mails_take hj hok).2]
end
end Go.PBYtadaihpeionniaa
end
section
namespace Go.Proofs.Ytadaihpeionniaa
open Go Go.RowKit Go.PBYtadaihpeionniaa
set_option linter.unusedVariables false
set_option linter.unusedSimpArgs false
set_option maxRecDepth 10000
set_option maxHeartbeats 2000000 in
theorem own_calls (m : Mm) (h : m.ok) (A : Option Addr) (c : Nat) (hb : m.X.body.length ≤ 1000) (w : World) (hA : SlAt w A (bys m.X.body)) :
    Calls Try.prog 16 #[.agg (mailC m (A, c)).toArray] w fun e w' => ∃ x : Pl, e = .returned (.agg (mailC m x).toArray) ∧ St [] w [bodyR 5 m.X.body x] w' := by
  obtain ⟨n, hn⟩ : ∃ n, m.X.body.length = n := ⟨_, rfl⟩
  have hlm : (mailC m (A, c)).length = 138 := mailV_length h
  have hom : ∀ u ∈ mailC m (A, c), u.oneCell' = true := mailV_one rfl
  have hlv : ∀ v : Value, (mailV m v).length = 138 := fun v => mailV_length h
  have hov : ∀ (B : Option Addr) (k : Nat), ∀ u ∈ mailV m (.slice B n k), u.oneCell' = true := fun B k => mailV_one rfl
  have hsl : (mailC m (A, c))[69]? = some (.slice A n c) := by rw [← hn]; exact mailV_sl h
  have hlb : (bys m.X.body).length = n := by rw [bys_length, hn]
  refine enter (n := 18) (R := fun e L => ∃ x : Pl, e = .returned (.agg (mailC m x).toArray) ∧ ∀ w', St [] w L w' → St [] w [bodyR 5 m.X.body x] w') [.agg (mailC m (A, c)).toArray] Try.func16 rfl rfl rfl (St.refl w) ?_ (fun e w' L' h H => by obtain ⟨x, h1, h2⟩ := h; exact ⟨x, h1, h2 w' H⟩)
  refine VC_seq ?_
  refine VC_region ?_
  refine l_boxA rfl rfl ?_
  intro b1
  refine l_allocA zr52 rfl ?_
  intro b2
  refine vl_nil ?_
  refine (th_n ?_)
  refine VC_seq ?_
  refine VC_region ?_
  refine vl_v (q_fldA fo52_1 (by decide) rfl rfl) rfl ?_
  refine vl_v (q_fldA fo36_4 (by decide) rfl rfl) rfl ?_
  refine vl_v (q_load 1 Try.underlying34 rfl rfl rfl hsl) rfl ?_
  refine vl_v (q_lenS Try.underlying34 rfl) rfl ?_
  refine l_makeZ Try.underlying34 in5 rfl rfl rfl (by omega) (by unfold maxLen; omega) rfl (repB _) ?_
  intro b8
  refine vl_v (q_assign rfl) rfl ?_
  refine vl_nil ?_
  refine (th_n ?_)
  refine VC_seq ?_
  refine VC_region ?_
  refine vl_v (q_move rfl) rfl ?_
  refine vl_v (q_fldA fo52_1 (by decide) rfl rfl) rfl ?_
  refine vl_v (q_fldA fo36_4 (by decide) rfl rfl) rfl ?_
  refine vl_v (q_load 2 Try.underlying34 rfl rfl rfl hsl) rfl ?_
  refine l_copy 0 rfl rfl rfl Try.underlying34 Try.underlying34 sz5 (Reads.old hA) (by omega) (by with_reducible first | exact bys_one _ | exact u32s_one _ | exact u64s_one _ | exact i64s_one _ | exact n64s_one _ | assumption) (by simp only [zs, zr, zm, za, zb, zu, zw, zi, zt, zd, zc, zn, *] <;> first | done | omega) rfl ?_
  simp only [List.set_cons_zero, List.set_cons_succ]
  refine vl_nil ?_
  refine (th_n ?_)
  refine VC_seq ?_
  refine VC_region ?_
  refine vl_v (q_move rfl) rfl ?_
  refine vl_v (q_fldA fo52_1 (by decide) rfl rfl) rfl ?_
  refine vl_v (q_fldA fo36_4 (by decide) rfl rfl) rfl ?_
  refine l_store1 2 rfl rfl rfl sz34 rfl (by omega) ?_
  simp only [List.set_cons_zero, List.set_cons_succ]
  refine vl_nil ?_
  refine (th_n ?_)
  refine VC_seq ?_
  rw [show ((mailC m (A, c)).set (0 + 1 + 68) (.slice (some ⟨b8, 0, none⟩) n n)) = mailV m (.slice (some ⟨b8, 0, none⟩) n n) from mailV_set h _]
  have hov8 := hov (some ⟨b8, 0, none⟩) n
  have hlv8 := hlv (.slice (some ⟨b8, 0, none⟩) n n)
  refine VC_region ?_
  refine vl_v (q_loads 2 Try.underlying52 rfl rfl rfl sz52 (by omega)) rfl ?_
  refine l_storeA 1 rfl rfl rfl sz52 (by omega) (by with_reducible first | exact bys_one _ | exact u32s_one _ | exact u64s_one _ | exact i64s_one _ | exact n64s_one _ | assumption) (by simp only [zs, zr, zm, za, zb, zu, zw, zi, zt, zd, zc, zn, *] <;> first | done | omega) ?_
  simp only [List.set_cons_zero, List.set_cons_succ]
  refine vl_nil ?_
  refine (th_n ?_)
  refine VC_ret ?_
  refine ⟨_, resC1 1 rfl Try.underlying52 rfl rfl rfl sz52 (by omega), ?_⟩
  subst hn
  refine ⟨(some ⟨b8, 0, none⟩, _), rfl, fun w' H' => ?_⟩
  have H2 := St.pick H' (ks := [0]) (by decide) rfl
  have hsp : splice (bys (List.replicate m.X.body.length 0)) 0 (List.take (min m.X.body.length m.X.body.length) (bys m.X.body)) = bys m.X.body := by
    rw [Nat.min_self, List.take_of_length_le (by rw [bys_length]; exact Nat.le_refl _)]
    simp only [splice, List.take_zero, List.nil_append, Nat.zero_add]
    rw [List.drop_eq_nil_of_le (by rw [bys_length, bys_length, List.length_replicate]; exact Nat.le_refl _), List.append_nil]
  rw [hsp] at H2
  exact H2.toRow (k := 0) rfl (by rw [Nat.mul_one]; exact hlb) (by unfold maxLen; omega)
end Go.Proofs.Ytadaihpeionniaa
end
section
namespace Go.PBYtadaihpeionniaa
open Go Go.RowKit
/-- the place of a mail's body -/
def plOf (v : Value) : Pl := match v with
  | .agg cs => match (cs.toList[69]? : Option Value) with
    | some (Value.slice A _ c) => (A, c)
    | _ => (none, 0)
  | _ => (none, 0)
theorem plOf_mail {m : Mm} (h : m.ok) (x : Pl) : plOf (.agg (mailC m x).toArray) = x := by
  simp only [plOf]
  rw [show (mailC m x)[69]? = some (.slice x.1 m.X.body.length x.2) from mailV_sl h]
theorem mailsC_one1 (y : Mm × Pl) : mailsC [y] = mailC y.1 y.2 := by simp [mailsC]
end Go.PBYtadaihpeionniaa
namespace Go.Proofs.Ytadaihpeionniaa
open Go Go.RowKit Go.PBYtadaihpeionniaa
set_option linter.unusedVariables false
set_option linter.unusedSimpArgs false
set_option maxRecDepth 10000
def nOwn (b : List UInt8) (v : Value) : List Res := [bodyR 5 b (plOf v)]
theorem nOwn_mail {m : Mm} (h : m.ok) (x : Pl) : nOwn m.X.body (.agg (mailC m x).toArray) = [bodyR 5 m.X.body x] := by rw [nOwn, plOf_mail h]
def BoxR (b : Nat) (A : Option Addr) (c : Nat) (ms : List (Mm × Pl)) (many : Nat) : List Res :=
  [.blk b 57 [.slice A ms.length c, vN many], .row 52 138 (.slice A ms.length c) ms.length (mailsC ms)]
set_option maxHeartbeats 1000000 in
theorem new_calls (w : World) : Calls Try.prog 8 #[] w fun e w' => ∃ b : Nat, e = .returned (vP b 0) ∧ St [] w (BoxR b none 0 [] 0) w' := by
  refine enter (n := 3) (R := fun e L => ∃ b : Nat, e = .returned (vP b 0) ∧ ∀ w', St [] w L w' → St [] w (BoxR b none 0 [] 0) w') [] Try.func8 rfl rfl rfl (St.refl w) ?_ (fun e w' L' h H => by obtain ⟨b, h1, h2⟩ := h; exact ⟨b, h1, h2 w' H⟩)
  refine VC_seq ?_
  refine VC_region ?_
  refine vl_v (q_assign rfl) rfl ?_
  refine vl_nil ?_
  refine (th_n ?_)
  refine VC_seq ?_
  refine VC_region ?_
  refine vl_v (q_build (c' := [.slice none 0 0, vN 0]) rfl (by kernel_rfl)) rfl ?_
  refine l_boxA rfl rfl ?_
  intro b2
  refine vl_v (q_assign rfl) rfl ?_
  refine vl_nil ?_
  refine (th_n ?_)
  refine VC_ret ?_
  refine ⟨_, res1 rfl rfl, ?_⟩
  exact ⟨_, rfl, fun w' H' => H'.addNil 52 138⟩
set_option maxHeartbeats 4000000 in
theorem put_bad {S : List Nat} {w0 w : World} {b c many : Nat} {A : Option Addr} {ms : List (Mm × Pl)} (X : EnvD) (s : StD) (A0 : Option Addr) (c0 : Nat) (hc : X.cm.length = 32) (hp : X.pub.length = 32) (hs : s.ok) (hms : ∀ y ∈ ms, y.1.ok) (hR : ∀ L, Reads S w0 L A0 (bys X.body)) (H : St S w0 (BoxR b A c ms many) w) (he : enR X = false) :
    Calls Try.prog 9 #[vP b 0, .agg (envOf X (A0, c0)).toArray, .agg (stC s).toArray] w fun r w' => r = .returned (.tuple #[vN 0, vN 1]) ∧ St S w0 (BoxR b A c ms many) w' := by
  have lX : (envOf X (A0, c0)).length = 69 := (envC_f hc hp).len
  have oX : ∀ u ∈ envOf X (A0, c0), u.oneCell' = true := envC_one rfl
  have ls := stC_length hs
  have os := stC_one (x := s)
  have hml := mailsC_length hms
  have hm1 := mailsC_one ms
  have hE : ∀ w, SlAt w A0 (bys X.body) → Calls Try.prog 15 #[.agg (envOf X (A0, c0)).toArray] w (fun e w' => ∃ x : Pl, e = .returned (.tuple #[.slice x.1 (enB X).length x.2, vN (enK X)]) ∧ St [] w [bodyR 5 (enB X) x] w') := fun w hs => henv_calls X A0 c0 hc hp w hs
  replace H : St S w0 [.blk b 57 [.slice A ms.length c, vN many], .row 52 138 (.slice A ms.length c) ms.length (mailsC ms)] w := H
  refine enter (n := 52) (R := fun r L' => r = .returned (.tuple #[vN 0, vN 1]) ∧ ∀ w', St S w0 L' w' → St S w0 (BoxR b A c ms many) w') [vP b 0, .agg (envOf X (A0, c0)).toArray, .agg (stC s).toArray] Try.func9 rfl rfl rfl H ?_ (fun e w' L' h H => ⟨h.1, h.2 w' H⟩)
  refine VC_seq ?_
  refine VC_region ?_
  refine l_boxA rfl rfl ?_
  intro b4
  refine l_boxA rfl rfl ?_
  intro b5
  refine vl_v (q_assign rfl) rfl ?_
  refine vl_v (q_assign rfl) rfl ?_
  refine vl_nil ?_
  refine (th_n ?_)
  refine VC_seq ?_
  refine VC_seq ?_
  refine VC_region ?_
  have hk : enK X = 1 := by unfold enK; rw [he]; rfl
  rw [hk] at hE
  refine vl_v (q_loads 1 Try.underlying36 rfl rfl rfl sz36 (by omega)) rfl ?_
  refine l_callG Try.func15 rfl rfl rfl (fun w1 H1 => hE w1 (hR _ w1 H1)) rfl ?_
  intro x12
  refine vl_v (q_move rfl) rfl ?_
  refine vl_v (q_ext rfl rfl) rfl ?_
  refine vl_v (q_ext rfl rfl) rfl ?_
  refine vl_v (q_assign rfl) rfl ?_
  refine vl_v (q_assign rfl) rfl ?_
  refine vl_nil ?_
  refine (th_n ?_)
  refine VC_seq ?_
  refine VC_region ?_
  refine vl_v (q_move rfl) rfl ?_
  refine vl_v (q_as (v := .bool true) (q_neq_n (q := 0) Try.underlying41 rfl rfl) (by simp)) rfl ?_
  refine vl_nil ?_
  refine (th_n ?_)
  refine VC_yes (rfl) ?_
  refine VC_seq ?_
  refine VC_region ?_
  refine vl_v (q_move rfl) rfl ?_
  refine vl_v (q_assign rfl) rfl ?_
  refine vl_v (q_assign rfl) rfl ?_
  refine vl_nil ?_
  refine (th_n ?_)
  refine VC_ret ?_
  refine (th_r ?_)
  refine ⟨_, res2 rfl rfl rfl, ?_⟩
  exact ⟨rfl, fun w' H' => St.pick H' (ks := [3, 4]) (by decide) rfl⟩
set_option maxHeartbeats 4000000 in
theorem put_full {S : List Nat} {w0 w : World} {b c many : Nat} {A : Option Addr} {ms : List (Mm × Pl)} (X : EnvD) (s : StD) (A0 : Option Addr) (c0 : Nat) (hc : X.cm.length = 32) (hp : X.pub.length = 32) (hs : s.ok) (hms : ∀ y ∈ ms, y.1.ok) (hR : ∀ L, Reads S w0 L A0 (bys X.body)) (H : St S w0 (BoxR b A c ms many) w) (he : enR X = true) (h8 : 8 ≤ ms.length) :
    Calls Try.prog 9 #[vP b 0, .agg (envOf X (A0, c0)).toArray, .agg (stC s).toArray] w fun r w' => r = .returned (.tuple #[vN 0, vN 8]) ∧ St S w0 (BoxR b A c ms many) w' := by
  have lX : (envOf X (A0, c0)).length = 69 := (envC_f hc hp).len
  have oX : ∀ u ∈ envOf X (A0, c0), u.oneCell' = true := envC_one rfl
  have ls := stC_length hs
  have os := stC_one (x := s)
  have hml := mailsC_length hms
  have hm1 := mailsC_one ms
  have hE : ∀ w, SlAt w A0 (bys X.body) → Calls Try.prog 15 #[.agg (envOf X (A0, c0)).toArray] w (fun e w' => ∃ x : Pl, e = .returned (.tuple #[.slice x.1 (enB X).length x.2, vN (enK X)]) ∧ St [] w [bodyR 5 (enB X) x] w') := fun w hs => henv_calls X A0 c0 hc hp w hs
  replace H : St S w0 [.blk b 57 [.slice A ms.length c, vN many], .row 52 138 (.slice A ms.length c) ms.length (mailsC ms)] w := H
  refine enter (n := 52) (R := fun r L' => r = .returned (.tuple #[vN 0, vN 8]) ∧ ∀ w', St S w0 L' w' → St S w0 (BoxR b A c ms many) w') [vP b 0, .agg (envOf X (A0, c0)).toArray, .agg (stC s).toArray] Try.func9 rfl rfl rfl H ?_ (fun e w' L' h H => ⟨h.1, h.2 w' H⟩)
  refine VC_seq ?_
  refine VC_region ?_
  refine l_boxA rfl rfl ?_
  intro b4
  refine l_boxA rfl rfl ?_
  intro b5
  refine vl_v (q_assign rfl) rfl ?_
  refine vl_v (q_assign rfl) rfl ?_
  refine vl_nil ?_
  refine (th_n ?_)
  refine VC_seq ?_
  refine VC_seq ?_
  refine VC_region ?_
  have hk : enK X = 0 := by unfold enK; rw [he]; rfl
  rw [hk] at hE
  refine vl_v (q_loads 1 Try.underlying36 rfl rfl rfl sz36 (by omega)) rfl ?_
  refine l_callG Try.func15 rfl rfl rfl (fun w1 H1 => hE w1 (hR _ w1 H1)) rfl ?_
  intro x12
  refine vl_v (q_move rfl) rfl ?_
  refine vl_v (q_ext rfl rfl) rfl ?_
  refine vl_v (q_ext rfl rfl) rfl ?_
  refine vl_v (q_assign rfl) rfl ?_
  refine vl_v (q_assign rfl) rfl ?_
  refine vl_nil ?_
  refine (th_n ?_)
  refine VC_seq ?_
  refine VC_region ?_
  refine vl_v (q_move rfl) rfl ?_
  refine vl_v (q_as (v := .bool false) (q_neq_n (q := 0) Try.underlying41 rfl rfl) (by simp)) rfl ?_
  refine vl_nil ?_
  refine (th_n ?_)
  refine VC_no (rfl) ?_
  refine VC_skip ?_
  refine (th_n ?_)
  refine VC_seq ?_
  refine VC_seq ?_
  refine VC_region ?_
  refine vl_v (q_move rfl) rfl ?_
  refine vl_v (q_nilck rfl) rfl ?_
  refine vl_v (q_fldA fo57_0 (by decide) rfl rfl) rfl ?_
  refine vl_v (q_load 3 Try.underlying46 rfl rfl rfl rfl) rfl ?_
  refine vl_v (q_lenS Try.underlying46 rfl) rfl ?_
  refine vl_v (q_true (q_geq_n (q := 8) Try.underlying3 rfl rfl) (by simp; omega)) rfl ?_
  refine vl_nil ?_
  refine (th_n ?_)
  refine VC_yes (rfl) ?_
  refine VC_seq ?_
  refine VC_region ?_
  refine vl_v (q_assign rfl) rfl ?_
  refine vl_v (q_assign rfl) rfl ?_
  refine vl_nil ?_
  refine (th_n ?_)
  refine VC_ret ?_
  refine (th_r ?_)
  refine ⟨_, res2 rfl rfl rfl, ?_⟩
  exact ⟨rfl, fun w' H' => St.pick H' (ks := [3, 4]) (by decide) rfl⟩
set_option maxHeartbeats 4000000 in
theorem put_ok {S : List Nat} {w0 w : World} {b c many : Nat} {A : Option Addr} {ms : List (Mm × Pl)} (X : EnvD) (s : StD) (A0 : Option Addr) (c0 : Nat) (hc : X.cm.length = 32) (hp : X.pub.length = 32) (hs : s.ok) (hms : ∀ y ∈ ms, y.1.ok) (hR : ∀ L, Reads S w0 L A0 (bys X.body)) (H : St S w0 (BoxR b A c ms many) w) (he : enR X = true) (h8 : ms.length < 8) (hm : many ≤ 1000) (hb : X.body.length ≤ 1000) :
    Calls Try.prog 9 #[vP b 0, .agg (envOf X (A0, c0)).toArray, .agg (stC s).toArray] w fun r w' => r = .returned (.tuple #[vN (many + 1), vN 0]) ∧ ∃ A' c' x, St S w0 (BoxR b A' c' (ms ++ [(⟨((many + 1 : Nat) : Int), X, s⟩, x)]) (many + 1) ++ [bodyR 5 X.body x]) w' := by
  have lX : (envOf X (A0, c0)).length = 69 := (envC_f hc hp).len
  have oX : ∀ u ∈ envOf X (A0, c0), u.oneCell' = true := envC_one rfl
  have ls := stC_length hs
  have os := stC_one (x := s)
  have hml := mailsC_length hms
  have hm1 := mailsC_one ms
  have hE : ∀ w, SlAt w A0 (bys X.body) → Calls Try.prog 15 #[.agg (envOf X (A0, c0)).toArray] w (fun e w' => ∃ x : Pl, e = .returned (.tuple #[.slice x.1 (enB X).length x.2, vN (enK X)]) ∧ St [] w [bodyR 5 (enB X) x] w') := fun w hs => henv_calls X A0 c0 hc hp w hs
  replace H : St S w0 [.blk b 57 [.slice A ms.length c, vN many], .row 52 138 (.slice A ms.length c) ms.length (mailsC ms)] w := H
  refine enter (n := 52) (R := fun r L' => r = .returned (.tuple #[vN (many + 1), vN 0]) ∧ ∀ w', St S w0 L' w' → ∃ A' c' x, St S w0 (BoxR b A' c' (ms ++ [(⟨((many + 1 : Nat) : Int), X, s⟩, x)]) (many + 1) ++ [bodyR 5 X.body x]) w') [vP b 0, .agg (envOf X (A0, c0)).toArray, .agg (stC s).toArray] Try.func9 rfl rfl rfl H ?_ (fun e w' L' h H => ⟨h.1, h.2 w' H⟩)
  refine VC_seq ?_
  refine VC_region ?_
  refine l_boxA rfl rfl ?_
  intro b4
  refine l_boxA rfl rfl ?_
  intro b5
  refine vl_v (q_assign rfl) rfl ?_
  refine vl_v (q_assign rfl) rfl ?_
  refine vl_nil ?_
  refine (th_n ?_)
  refine VC_seq ?_
  refine VC_seq ?_
  refine VC_region ?_
  have hk : enK X = 0 := by unfold enK; rw [he]; rfl
  rw [hk] at hE
  refine vl_v (q_loads 1 Try.underlying36 rfl rfl rfl sz36 (by omega)) rfl ?_
  refine l_callG Try.func15 rfl rfl rfl (fun w1 H1 => hE w1 (hR _ w1 H1)) rfl ?_
  intro x12
  refine vl_v (q_move rfl) rfl ?_
  refine vl_v (q_ext rfl rfl) rfl ?_
  refine vl_v (q_ext rfl rfl) rfl ?_
  refine vl_v (q_assign rfl) rfl ?_
  refine vl_v (q_assign rfl) rfl ?_
  refine vl_nil ?_
  refine (th_n ?_)
  refine VC_seq ?_
  refine VC_region ?_
  refine vl_v (q_move rfl) rfl ?_
  refine vl_v (q_as (v := .bool false) (q_neq_n (q := 0) Try.underlying41 rfl rfl) (by simp)) rfl ?_
  refine vl_nil ?_
  refine (th_n ?_)
  refine VC_no (rfl) ?_
  refine VC_skip ?_
  refine (th_n ?_)
  refine VC_seq ?_
  refine VC_seq ?_
  refine VC_region ?_
  refine vl_v (q_move rfl) rfl ?_
  refine vl_v (q_nilck rfl) rfl ?_
  refine vl_v (q_fldA fo57_0 (by decide) rfl rfl) rfl ?_
  refine vl_v (q_load 3 Try.underlying46 rfl rfl rfl rfl) rfl ?_
  refine vl_v (q_lenS Try.underlying46 rfl) rfl ?_
  refine vl_v (q_false (q_geq_n (q := 8) Try.underlying3 rfl rfl) (by simp; omega)) rfl ?_
  refine vl_nil ?_
  refine (th_n ?_)
  refine VC_no (rfl) ?_
  refine VC_skip ?_
  refine (th_n ?_)
  refine VC_seq ?_
  refine VC_region ?_
  refine vl_v (q_move rfl) rfl ?_
  refine vl_v (q_nilck rfl) rfl ?_
  refine vl_v (q_fldA fo57_1 (by decide) rfl rfl) rfl ?_
  refine vl_v (q_load 3 Try.underlying3 rfl rfl rfl rfl) rfl ?_
  refine vl_v (q_add_n (q := 1) rfl rfl (by omega)) rfl ?_
  refine vl_v (q_nilck rfl) rfl ?_
  refine vl_v (q_fldA fo57_1 (by decide) rfl rfl) rfl ?_
  refine l_store1 3 rfl rfl rfl sz3 rfl (by simp; done) ?_
  simp only [List.set_cons_zero, List.set_cons_succ]
  refine vl_nil ?_
  refine (th_n ?_)
  refine VC_seq ?_
  obtain ⟨m, hm0⟩ : ∃ m : Mm, m = ⟨((many + 1 : Nat) : Int), X, s⟩ := ⟨_, rfl⟩
  have hmo : m.ok := by subst hm0; exact ⟨hc, hp, hs⟩
  have hmX : m.X = X := by subst hm0; rfl
  have hmc : [vN (many + 1)] ++ (envOf X (A0, c0) ++ stC s) = mailC m (A0, c0) := by subst hm0; rfl
  have hlf : ∀ x : Pl, [mailC m x].flatten.length = 1 * 138 := fun x => by simp [mailC, mailV_length hmo]
  have hof : ∀ x : Pl, ∀ u ∈ [mailC m x].flatten, u.oneCell' = true := fun x => by rw [List.flatten_cons, List.flatten_nil, List.append_nil]; exact mailV_one rfl
  have hO := fun w hs => own_calls m hmo A0 c0 (by rw [hmX]; exact hb) w (by rw [hmX]; exact hs)
  refine VC_drawQ 15 5 [[], [], [1], [2], [3], [], [5], [6], [7], [], [], [8, 9, 10], [11], [12], [4, 13, 12], [0, 1, 2, 3, 4, 5, 6, 7, 8, 9, 10, 11, 12, 13, 14], [15, 0, 1, 2, 3, 4, 5, 6, 7, 8, 9, 10, 11, 12, 13, 14], [16, 14, 0, 1, 2, 3, 4, 5, 6, 7, 8, 9, 10, 11, 12, 13]] [[], [], [1], [1, 2], [1, 2, 3], [], [5], [5, 6], [5, 6, 7], [], [], [5, 6, 7, 8, 9, 10], [5, 6, 7, 8, 9, 10, 11], [5, 6, 7, 8, 9, 10, 11, 12], [1, 2, 3, 4, 5, 6, 7, 8, 9, 10, 11, 12, 13], [0, 1, 2, 3, 4, 5, 6, 7, 8, 9, 10, 11, 12, 13, 14], [0, 1, 2, 3, 4, 5, 6, 7, 8, 9, 10, 11, 12, 13, 14, 15], [0, 1, 2, 3, 4, 5, 6, 7, 8, 9, 10, 11, 12, 13, 14, 15, 16]] [([], [], [], [0, 1, 2, 3], []), ([], [], [], [0, 1, 2, 3, 4], []), ([1], [], [], [0, 1, 2, 3, 4], [1]), ([1, 2], [], [], [0, 1, 2, 3, 4], [1, 2]), ([1, 2, 3], [], [], [0, 1, 2, 3, 4], [1, 2, 3]), ([], [], [], [0, 1, 2, 3, 4], []), ([5], [], [], [0, 1, 2, 3, 4], [5]), ([5, 6], [], [], [0, 1, 2, 3, 4], [5, 6]), ([5, 6, 7], [], [], [0, 1, 2, 3, 4], [5, 6, 7]), ([], [], [], [0, 1, 2, 3, 4], []), ([], [], [], [0, 1, 2, 3, 4], []), ([5, 6, 7, 8, 9, 10], [], [], [0, 1, 2, 3, 4], [5, 6, 7, 8, 9, 10]), ([5, 6, 7, 8, 9, 10, 11], [], [], [0, 1, 2, 3, 4], [5, 6, 7, 8, 9, 10, 11]), ([5, 6, 7, 8, 9, 10, 11, 12], [], [], [0, 1, 2, 3, 4], [5, 6, 7, 8, 9, 10, 11, 12]), ([1, 2, 3, 4, 5, 6, 7, 8, 9, 10, 11, 12, 13], [4], [], [0, 1, 2, 3], [1, 2, 3, 4, 5, 6, 7, 8, 9, 10, 11, 12, 13])] [0, 1, 2, 3] [0, 1, 2, 3, 4, 5, 6, 7, 8, 9, 10, 11, 12, 13, 14] rfl rfl (by kernel_rfl) ?_
  refine qp_v (fun xs gs hx => q_move rfl) ?_
  refine qp_v (fun xs gs hx => q_move rfl) ?_
  refine qp_v (fun xs gs hx => q_nilck rfl) ?_
  refine qp_v (fun xs gs hx => q_fldA fo57_0 (by decide) rfl rfl) ?_
  refine qp_v (fun xs gs hx => q_load 3 Try.underlying46 rfl rfl rfl rfl) ?_
  refine qp_v (fun xs gs hx => q_move rfl) ?_
  refine qp_v (fun xs gs hx => q_nilck rfl) ?_
  refine qp_v (fun xs gs hx => q_fldA fo57_1 (by decide) rfl rfl) ?_
  refine qp_v (fun xs gs hx => q_load 3 Try.underlying3 rfl rfl rfl rfl) ?_
  refine qp_v (fun xs gs hx => q_loads 2 Try.underlying36 rfl rfl rfl sz36 (by omega)) ?_
  refine qp_v (fun xs gs hx => q_loads 1 Try.underlying38 rfl rfl rfl sz38 (by omega)) ?_
  refine qp_v (fun xs gs hx => q_buildS (tot := 138) (sizes := [1, 69, 68]) (c' := mailC m (A0, c0)) (by kernel_rfl) rfl rfl rfl rfl (by simp only [List.map_cons, List.map_nil, cellsL, Value.cells, lX, ls]; rfl) (by rw [← hmc]; simp only [flatV, cellsL, Value.cells, List.map_cons, List.map_nil, List.flatten_cons, List.flatten_nil, List.append_nil])) ?_
  refine qp_a (fun xs gs hx => q_call (s := .any (fun v => ∃ x, v = .agg (mailC m x).toArray) (nOwn m.X.body)) Try.func16 rfl rfl rfl (fun w1 H1 => (hO w1 (hR _ w1 H1)).mono fun e w' h => by obtain ⟨x, h1, h2⟩ := h; exact ⟨_, h1, ⟨x, rfl⟩, by show St [] w1 (nOwn m.X.body (.agg (mailC m x).toArray)) w'; rw [nOwn_mail hmo]; exact h2⟩)) ?_
  refine qp_a (Fv := fun xs gs u => ∃ b, u = .slice (some ⟨b, 0, none⟩) 1 1) (N := fun xs gs => nRow 52 138 1 [mailC m (plOf (xs 12))].flatten) (fun xs gs hx => ?_) ?_
  · obtain ⟨x, h9⟩ := hx.1 rfl
    simp only [h9, plOf_mail hmo]
    exact q_litG [mailC m x] Try.underlying46 in52 (by decide) (by decide) rfl rfl rfl (by intro v hv; rw [List.mem_singleton.1 hv]; exact mailV_length hmo)
  refine qp_append Try.underlying46 Try.underlying46 in52 rfl (by decide) (fun xs gs hx => rfl) (fun xs gs hx => rfl) (fun xs gs hx => (let ⟨b', e'⟩ := hx.2.1 rfl; ⟨_, _, congrArg some e', Reads.rowV 5 e' rfl⟩)) (fun xs gs hx => hlf _) (fun xs gs hx => hof _) (by omega) (by omega) ?_
  refine qp_end ?_
  intro xs gs hx
  obtain ⟨f43, ⟨b44, e44⟩, f45, _⟩ := hx
  simp only [selI, ownsA, List.contains_cons, List.contains_nil, Nat.reduceBEq, Nat.reduceAdd, Bool.or_false, Bool.or_true, Bool.false_or, Bool.true_or, mask, nRow, nBlk, nRowT, tupAt_0, tupAt_1, List.append_assoc, List.nil_append, List.append_nil, List.cons_append, List.singleton_append, e44]
  obtain ⟨A45, c45, e45, hc45, hm45⟩ := f45
  obtain ⟨x, e43⟩ := f43
  simp only [e45, e43, nOwn_mail hmo, plOf_mail hmo, List.flatten_cons, List.flatten_nil, List.append_nil, List.cons_append, List.nil_append]
  refine VL.keep (Sub.cons (s := 0) rfl (Sub.cons (s := 1) rfl (Sub.cons (s := 2) rfl (Sub.cons (s := 4) rfl (Sub.cons (s := 5) rfl (Sub.cons (s := 6) rfl (Sub.cons (s := 7) rfl (Sub.cons (s := 9) rfl (Sub.cons (s := 16) rfl (Sub.cons (s := 23) rfl (Sub.cons (s := 31) rfl (Sub.cons (s := 45) rfl (Sub.nil _))))))))))))) ?_
  refine vl_v (q_nilck rfl) rfl ?_
  refine vl_v (q_fldA fo57_0 (by decide) rfl rfl) rfl ?_
  refine l_store1 3 rfl rfl rfl sz46 rfl (by simp; done) ?_
  simp only [List.set_cons_zero, List.set_cons_succ]
  refine vl_nil ?_
  refine (qn_n (th_n ?_))
  refine VC_seq ?_
  refine VC_region ?_
  refine vl_v (q_move rfl) rfl ?_
  refine vl_v (q_nilck rfl) rfl ?_
  refine vl_v (q_fldA fo57_1 (by decide) rfl rfl) rfl ?_
  refine vl_v (q_load 3 Try.underlying3 rfl rfl rfl rfl) rfl ?_
  refine vl_v (q_assign rfl) rfl ?_
  refine vl_v (q_assign rfl) rfl ?_
  refine vl_nil ?_
  refine (th_n ?_)
  refine VC_ret ?_
  refine ⟨_, res2 rfl rfl rfl, ?_⟩
  refine ⟨rfl, fun w' H' => ⟨A45, c45, x, ?_⟩⟩
  have H2 := St.pick H' (ks := [3, 6, 4]) (by decide) rfl
  subst hm0
  unfold BoxR
  rw [show (ms ++ [((⟨((many + 1 : Nat) : Int), X, s⟩ : Mm), x)]).length = ms.length + 1 by simp, mailsC_append, mailsC_one1]
  exact H2
end Go.Proofs.Ytadaihpeionniaa
end
section
namespace Go.Proofs.Ytadaihpeionniaa
open Go Go.RowKit Go.PBYtadaihpeionniaa
set_option linter.unusedVariables false
set_option linter.unusedSimpArgs false
set_option maxRecDepth 10000
/-- the bodies of fresh mails, the last one first -/
def bods (ns : List (Mm × Pl)) : List Res := (ns.map fun y => bodyR 5 y.1.X.body y.2).reverse
theorem bods_snoc (ns : List (Mm × Pl)) (m : Mm) (x : Pl) : bods (ns ++ [(m, x)]) = bodyR 5 m.X.body x :: bods ns := by simp [bods]
def mids (ms : List (Mm × Pl)) : List Mm := ms.map (·.1)
theorem mids_snoc {ms : List (Mm × Pl)} {i : Nat} {y : Mm × Pl} (h : ms[i]? = some y) : (mids ms).take (i + 1) = (mids ms).take i ++ [y.1] := by
  rw [List.take_add_one, mids, List.getElem?_map, h]; rfl
set_option maxHeartbeats 4000000 in
theorem list_calls (w : World) (b c many : Nat) (A : Option Addr) (ms : List (Mm × Pl)) (hms : ∀ y ∈ ms, y.1.ok) (hb : ∀ y ∈ ms, y.1.X.body.length ≤ 1000) (hn : ms.length ≤ 8) (hS : SlAt w (some ⟨b, 0, none⟩) [.slice A ms.length c, vN many]) (hA : SlAt w A (mailsC ms)) (hB : ∀ y ∈ ms, SlAt w y.2.1 (bys y.1.X.body)) :
    Calls Try.prog 14 #[vP b 0] w fun e w' => ∃ z : Pl × List (Mm × Pl), e = .returned (.slice z.1.1 ms.length z.1.2) ∧ mids z.2 = mids ms ∧ St [] w ([.row 52 138 (.slice z.1.1 ms.length z.1.2) ms.length (mailsC z.2)] ++ bods z.2) w' := by
  have hml := mailsC_length hms
  refine enter (n := 22) (R := fun e L => ∃ z : Pl × List (Mm × Pl), e = .returned (.slice z.1.1 ms.length z.1.2) ∧ mids z.2 = mids ms ∧ ∀ w', St [] w L w' → St [] w ([.row 52 138 (.slice z.1.1 ms.length z.1.2) ms.length (mailsC z.2)] ++ bods z.2) w') [vP b 0] Try.func14 rfl rfl rfl (St.refl w) ?_ (fun e w' L' h H => by obtain ⟨z, h1, h2, h3⟩ := h; exact ⟨z, h1, h2, h3 w' H⟩)
  refine VC_seq ?_
  refine VC_region ?_
  refine vl_v (q_assign rfl) rfl ?_
  refine vl_nil ?_
  refine (th_n ?_)
  refine VC_seq ?_
  refine VC_region ?_
  refine vl_v (q_assign rfl) rfl ?_
  refine vl_nil ?_
  refine (th_n ?_)
  refine VC_seq ?_
  refine VC_seq ?_
  refine VC_region ?_
  refine vl_v (q_move rfl) rfl ?_
  refine vl_v (q_nilck rfl) rfl ?_
  refine vl_v (q_fldA fo57_0 (by decide) rfl rfl) rfl ?_
  refine vl_v (q_loadR (ad := ⟨b, 0, none⟩) (j := 0) Try.underlying46 rfl rfl (Reads.old hS) rfl) rfl ?_
  refine vl_v (q_lenS Try.underlying46 rfl) rfl ?_
  refine vl_v (q_move rfl) rfl ?_
  refine vl_nil ?_
  refine (th_n ?_)
  refine VC_block ?_
  refine VC_loop (ι := Nat × Pl × List (Mm × Pl)) (fun x => x.1 ≤ ms.length ∧ mids x.2.2 = (mids ms).take x.1) (fun x => [(0, vP b 0), (3, .slice x.2.1.1 x.1 x.2.1.2), (9, .slice A ms.length c), (10, vN ms.length), (11, vN x.1)]) (fun x => [.row 52 138 (.slice x.2.1.1 x.1 x.2.1.2) x.1 (mailsC x.2.2)] ++ bods x.2.2) (fun x => ms.length - x.1) (0, (none, 0), []) (⟨Nat.zero_le _, rfl⟩) (Sub.cons (s := 0) rfl (Sub.cons (s := 3) rfl (Sub.cons (s := 9) rfl (Sub.cons (s := 10) rfl (Sub.cons (s := 11) rfl (Sub.nil _)))))) (fun w H => H.addNil 52 138) ?_
  rintro ⟨i, ⟨B, k⟩, ns⟩ hp
  obtain ⟨hi, hp⟩ := hp
  dsimp only at hi hp
  dsimp only
  simp only [List.cons_append, List.nil_append]
  refine VC_seq ?_
  refine VC_region ?_
  refine vl_v (q_lss_n Try.underlying3 rfl rfl) rfl ?_
  refine vl_nil ?_
  refine (th_n ?_)
  refine VC_seq ?_
  refine VC_cond rfl (fun ht12 => ?_) (fun ht12 => ?_)
  · skip
    have ht12 := of_decide_eq_true ht12
    obtain ⟨y, hy⟩ : ∃ y, ms[i]? = some y := ⟨_, List.getElem?_eq_getElem ht12⟩
    have hym := List.mem_of_getElem? hy
    have hyo := hms y hym
    have hpt := mailsC_part hms hy
    have lyc : (mailC y.1 y.2).length = 138 := mailV_length hyo
    have oyc : ∀ u ∈ mailC y.1 y.2, u.oneCell' = true := mailV_one rfl
    have lxc : ∀ x : Pl, (mailC y.1 x).length = 138 := fun x => mailV_length hyo
    refine VC_skip ?_
    refine (th_n ?_)
    refine VC_seq ?_
    refine VC_block ?_
    refine VC_seq ?_
    refine VC_region ?_
    refine vl_v (q_idxRdN (m := i) Try.underlying46 sz52 rfl rfl ht12 (Reads.old hA) (by rw [hml]; omega)) rfl ?_
    refine vl_v (q_loadsRd Try.underlying52 rfl sz52 rfl (Reads.old hA) hpt lyc (by omega)) rfl ?_
    refine l_allocA zr52 rfl ?_
    intro b5
    refine l_storeA 0 rfl rfl rfl sz52 (by omega) (by with_reducible first | exact bys_one _ | exact u32s_one _ | exact u64s_one _ | exact i64s_one _ | exact n64s_one _ | assumption) (by simp only [zs, zr, zm, za, zb, zu, zw, zi, zt, zd, zc, zn, *] <;> first | done | omega) ?_
    simp only [List.set_cons_zero, List.set_cons_succ]
    refine vl_nil ?_
    refine (th_n ?_)
    refine VC_region ?_
    refine vl_v (q_move rfl) rfl ?_
    refine vl_v (q_loads 0 Try.underlying52 rfl rfl rfl sz52 (by omega)) rfl ?_
    refine l_callG Try.func16 rfl rfl rfl (fun w1 H1 => own_calls y.1 hyo y.2.1 y.2.2 (hb y hym) w1 (H1.sl0 (hB y hym))) rfl ?_
    intro x17
    refine l_litG [_] Try.underlying46 in52 (by decide) (by decide) rfl rfl rfl (by intro v hv; rw [List.mem_singleton] at hv; subst hv; first | omega | with_reducible assumption | (simp only [zb, zu, zw, zi, za]; omega) | (simp only [zs, zr, zm, za, zb, zu, zw, zi, zt, zd, zc, zn, *] <;> first | done | omega) | rfl) rfl ?_
    intro b18
    simp only [List.flatten_cons, List.flatten_nil, List.append_nil]
    have ox : ∀ u ∈ mailC y.1 x17, u.oneCell' = true := mailV_one rfl
    have lx := lxc x17
    refine l_append 3 rfl rfl rfl Try.underlying46 Try.underlying46 in52 rfl (by decide) (Reads.row 0 rfl) (by omega) (by with_reducible first | exact bys_one _ | exact u32s_one _ | exact u64s_one _ | exact i64s_one _ | exact n64s_one _ | assumption) (by omega) (by omega) rfl ?_
    intro A19 c19 hc19
    simp only [List.set_cons_zero, List.set_cons_succ, ← bys_append, ← u32s_append, ← u64s_append, ← i64s_append, List.nil_append, Nat.zero_add]
    refine vl_v (q_assign rfl) rfl ?_
    refine vl_nil ?_
    refine (bl_n (th_n ?_))
    refine VC_region ?_
    refine vl_v (q_add_n (q := 1) rfl rfl (by omega)) rfl ?_
    refine vl_v (q_move rfl) rfl ?_
    refine vl_nil ?_
    refine (th_n ?_)
    refine ⟨(i + 1, (A19, c19), ns ++ [(y.1, x17)]), ⟨by show i + 1 ≤ ms.length; omega, by show mids (ns ++ [(y.1, x17)]) = (mids ms).take (i + 1); rw [mids_snoc hy, ← hp]; simp [mids]⟩, by show ms.length - (i + 1) < ms.length - i; omega, (Sub.cons (s := 0) rfl (Sub.cons (s := 3) rfl (Sub.cons (s := 9) rfl (Sub.cons (s := 10) rfl (Sub.cons (s := 11) rfl (Sub.nil _)))))), fun w H => by rw [bods_snoc, mailsC_append, mailsC_one1]; exact St.pickR 4 H (ks := [3, 1]) (by decide) (by decide) rfl rfl⟩
  · skip
    have ht12 := of_decide_eq_false ht12
    obtain rfl : i = ms.length := by omega
    refine VC_exit ?_
    refine (th_x (th_x (bl_xs (th_n ?_))))
    refine VC_seq ?_
    refine VC_region ?_
    refine vl_v (q_move rfl) rfl ?_
    refine vl_v (q_assign rfl) rfl ?_
    refine vl_nil ?_
    refine (th_n ?_)
    refine VC_ret ?_
    refine ⟨_, res1 rfl rfl, ?_⟩
    exact ⟨((B, k), ns), rfl, by rw [hp]; exact List.take_of_length_le (by simp [mids]), fun w' H' => H'⟩
end Go.Proofs.Ytadaihpeionniaa
end
section
namespace Go.Proofs.Ytadaihpeionniaa
open Go Go.RowKit Go.PBYtadaihpeionniaa
set_option linter.unusedVariables false
set_option linter.unusedSimpArgs false
set_option maxRecDepth 10000
/-- j is where that number stands, or how many are kept -/
structure AtM (ms : List (Mm × Pl)) (id : Int) (j : Nat) : Prop where
  le : j ≤ ms.length
  no : ∀ i y, i < j → ms[i]? = some y → y.1.id ≠ id
  yes : ∀ y, ms[j]? = some y → y.1.id = id
set_option maxHeartbeats 4000000 in
theorem ack_low {S : List Nat} {w0 w : World} {b c many : Nat} {A : Option Addr} {ms : List (Mm × Pl)} (id : Int) (hw : (Lit.int .i64 id).wf = true) (hms : ∀ y ∈ ms, y.1.ok) (hn : ms.length ≤ 8) (H : St S w0 (BoxR b A c ms many) w) (h : id < 1) :
    Calls Try.prog 11 #[vP b 0, vI id] w fun r w' => r = .returned (vI 7) ∧ St S w0 (BoxR b A c ms many) w' := by
  have hml := mailsC_length hms
  have hm1 := mailsC_one ms
  replace H : St S w0 [.blk b 57 [.slice A ms.length c, vN many], .row 52 138 (.slice A ms.length c) ms.length (mailsC ms)] w := H
  refine enter (n := 47) (R := fun r L' => r = .returned (vI 7) ∧ ∀ w', St S w0 L' w' → St S w0 (BoxR b A c ms many) w') [vP b 0, vI id] Try.func11 rfl rfl rfl H ?_ (fun e w' L' h H => ⟨h.1, h.2 w' H⟩)
  refine VC_seq ?_
  refine VC_region ?_
  refine vl_v (q_assign rfl) rfl ?_
  refine vl_nil ?_
  refine (th_n ?_)
  refine VC_scope ?_
  refine VC_seq ?_
  refine VC_seq ?_
  refine VC_region ?_
  refine vl_v (q_move rfl) rfl ?_
  refine vl_v (q_as (v := .bool true) (q_lss_k (q := 1) Try.underlying3 rfl rfl) (by simp; omega)) rfl ?_
  refine vl_v (q_move rfl) rfl ?_
  refine vl_skip rfl rfl ?_
  refine vl_skip rfl rfl ?_
  refine vl_skip rfl rfl ?_
  refine vl_skip rfl rfl ?_
  refine vl_skip rfl rfl ?_
  refine vl_skip rfl rfl ?_
  refine vl_v (q_pickT rfl rfl) rfl ?_
  refine vl_nil ?_
  refine (th_n ?_)
  refine VC_yes (rfl) ?_
  refine VC_seq ?_
  refine VC_region ?_
  refine vl_v (q_assign rfl) rfl ?_
  refine vl_nil ?_
  refine (th_n ?_)
  refine VC_ret ?_
  refine (th_r (sc_r ?_))
  refine ⟨_, res1 rfl rfl, ?_⟩
  exact ⟨rfl, fun w' H' => H'⟩
set_option maxHeartbeats 4000000 in
theorem ack_high {S : List Nat} {w0 w : World} {b c many : Nat} {A : Option Addr} {ms : List (Mm × Pl)} (id : Int) (hw : (Lit.int .i64 id).wf = true) (hms : ∀ y ∈ ms, y.1.ok) (hn : ms.length ≤ 8) (H : St S w0 (BoxR b A c ms many) w) (h : 1 ≤ id) (h2 : (many : Int) < id) :
    Calls Try.prog 11 #[vP b 0, vI id] w fun r w' => r = .returned (vI 7) ∧ St S w0 (BoxR b A c ms many) w' := by
  have hml := mailsC_length hms
  have hm1 := mailsC_one ms
  replace H : St S w0 [.blk b 57 [.slice A ms.length c, vN many], .row 52 138 (.slice A ms.length c) ms.length (mailsC ms)] w := H
  refine enter (n := 47) (R := fun r L' => r = .returned (vI 7) ∧ ∀ w', St S w0 L' w' → St S w0 (BoxR b A c ms many) w') [vP b 0, vI id] Try.func11 rfl rfl rfl H ?_ (fun e w' L' h H => ⟨h.1, h.2 w' H⟩)
  refine VC_seq ?_
  refine VC_region ?_
  refine vl_v (q_assign rfl) rfl ?_
  refine vl_nil ?_
  refine (th_n ?_)
  refine VC_scope ?_
  refine VC_seq ?_
  refine VC_seq ?_
  refine VC_region ?_
  refine vl_v (q_move rfl) rfl ?_
  refine vl_v (q_as (v := .bool false) (q_lss_k (q := 1) Try.underlying3 rfl rfl) (by simp; omega)) rfl ?_
  refine vl_v (q_move rfl) rfl ?_
  refine vl_vg rfl (q_move rfl) rfl ?_
  refine vl_vg rfl (q_move rfl) rfl ?_
  refine vl_vg rfl (q_nilck rfl) rfl ?_
  refine vl_vg rfl (q_fldA fo57_1 (by decide) rfl rfl) rfl ?_
  refine vl_vg rfl (q_load 0 Try.underlying3 rfl rfl rfl rfl) rfl ?_
  refine vl_vg rfl (q_as (v := .bool true) (q_gtr_k Try.underlying3 rfl rfl) (by simp; omega)) rfl ?_
  refine vl_v (q_pickF rfl rfl) rfl ?_
  refine vl_nil ?_
  refine (th_n ?_)
  refine VC_yes (rfl) ?_
  refine VC_seq ?_
  refine VC_region ?_
  refine vl_v (q_assign rfl) rfl ?_
  refine vl_nil ?_
  refine (th_n ?_)
  refine VC_ret ?_
  refine (th_r (sc_r ?_))
  refine ⟨_, res1 rfl rfl, ?_⟩
  exact ⟨rfl, fun w' H' => H'⟩
set_option maxHeartbeats 4000000 in
theorem ack_old {S : List Nat} {w0 w : World} {b c many : Nat} {A : Option Addr} {ms : List (Mm × Pl)} (id : Int) (hw : (Lit.int .i64 id).wf = true) (hms : ∀ y ∈ ms, y.1.ok) (hn : ms.length ≤ 8) (H : St S w0 (BoxR b A c ms many) w) (h : 1 ≤ id) (h2 : id ≤ (many : Int)) (hno : ∀ y ∈ ms, y.1.id ≠ id) :
    Calls Try.prog 11 #[vP b 0, vI id] w fun r w' => r = .returned (vI 5) ∧ St S w0 (BoxR b A c ms many) w' := by
  have hml := mailsC_length hms
  have hm1 := mailsC_one ms
  replace H : St S w0 [.blk b 57 [.slice A ms.length c, vN many], .row 52 138 (.slice A ms.length c) ms.length (mailsC ms)] w := H
  refine enter (n := 47) (R := fun r L' => r = .returned (vI 5) ∧ ∀ w', St S w0 L' w' → St S w0 (BoxR b A c ms many) w') [vP b 0, vI id] Try.func11 rfl rfl rfl H ?_ (fun e w' L' h H => ⟨h.1, h.2 w' H⟩)
  refine VC_seq ?_
  refine VC_region ?_
  refine vl_v (q_assign rfl) rfl ?_
  refine vl_nil ?_
  refine (th_n ?_)
  refine VC_scope ?_
  refine VC_seq ?_
  refine VC_seq ?_
  refine VC_region ?_
  refine vl_v (q_move rfl) rfl ?_
  refine vl_v (q_as (v := .bool false) (q_lss_k (q := 1) Try.underlying3 rfl rfl) (by simp; omega)) rfl ?_
  refine vl_v (q_move rfl) rfl ?_
  refine vl_vg rfl (q_move rfl) rfl ?_
  refine vl_vg rfl (q_move rfl) rfl ?_
  refine vl_vg rfl (q_nilck rfl) rfl ?_
  refine vl_vg rfl (q_fldA fo57_1 (by decide) rfl rfl) rfl ?_
  refine vl_vg rfl (q_load 0 Try.underlying3 rfl rfl rfl rfl) rfl ?_
  refine vl_vg rfl (q_as (v := .bool false) (q_gtr_k Try.underlying3 rfl rfl) (by simp; omega)) rfl ?_
  refine vl_v (q_pickF rfl rfl) rfl ?_
  refine vl_nil ?_
  refine (th_n ?_)
  refine VC_no (rfl) ?_
  refine VC_skip ?_
  refine (th_n ?_)
  refine VC_seq ?_
  refine VC_region ?_
  refine vl_v (q_assign rfl) rfl ?_
  refine vl_nil ?_
  refine (th_n ?_)
  refine VC_seq ?_
  refine VC_label ?_
  refine (th_n ?_)
  refine VC_seq ?_
  refine VC_seq ?_
  refine VC_region ?_
  refine vl_v (q_move rfl) rfl ?_
  refine vl_v (q_nilck rfl) rfl ?_
  refine vl_v (q_fldA fo57_0 (by decide) rfl rfl) rfl ?_
  refine vl_v (q_load 0 Try.underlying46 rfl rfl rfl rfl) rfl ?_
  refine vl_v (q_lenS Try.underlying46 rfl) rfl ?_
  refine vl_v (q_move rfl) rfl ?_
  refine vl_nil ?_
  refine (th_n ?_)
  refine VC_block ?_
  refine VC_loop (ι := Nat) (fun i => i ≤ ms.length) (fun i => [(0, vP b 0), (1, vI id), (5, vI (-1)), (21, .slice A ms.length c), (22, vN ms.length), (23, vN i)]) (fun i => [.blk b 57 [.slice A ms.length c, vN many], .row 52 138 (.slice A ms.length c) ms.length (mailsC ms)]) (fun i => ms.length - i) 0 (by omega) (Sub.cons (s := 0) rfl (Sub.cons (s := 1) rfl (Sub.cons (s := 5) rfl (Sub.cons (s := 21) rfl (Sub.cons (s := 22) rfl (Sub.cons (s := 23) rfl (Sub.nil _))))))) (fun w H => H) ?_
  rintro i hp
  refine VC_seq ?_
  refine VC_region ?_
  refine vl_v (q_lss_n Try.underlying3 rfl rfl) rfl ?_
  refine vl_nil ?_
  refine (th_n ?_)
  refine VC_seq ?_
  refine VC_cond rfl (fun ht24 => ?_) (fun ht24 => ?_)
  · skip
    have ht24 := of_decide_eq_true ht24
    obtain ⟨y, hy⟩ : ∃ y, ms[i]? = some y := ⟨_, List.getElem?_eq_getElem ht24⟩
    have hyo := hms y (List.mem_of_getElem? hy)
    have hpt := mailsC_part hms hy
    have lyc : (mailC y.1 y.2).length = 138 := mailV_length hyo
    have oyc : ∀ u ∈ mailC y.1 y.2, u.oneCell' = true := mailV_one rfl
    refine VC_skip ?_
    refine (th_n ?_)
    refine VC_seq ?_
    refine VC_block ?_
    refine VC_seq ?_
    refine VC_region ?_
    refine vl_v (q_move rfl) rfl ?_
    refine vl_v (q_idxRdN (m := i) Try.underlying46 sz52 rfl rfl ht24 (Reads.row 1 rfl) (by rw [hml]; omega)) rfl ?_
    refine vl_v (q_loadsRd Try.underlying52 rfl sz52 rfl (Reads.row 1 rfl) hpt lyc (by omega)) rfl ?_
    refine l_allocA zr52 rfl ?_
    intro b7
    refine vl_v (q_assign rfl) rfl ?_
    refine l_storeA 0 rfl rfl rfl sz52 (by omega) (by with_reducible first | exact bys_one _ | exact u32s_one _ | exact u64s_one _ | exact i64s_one _ | exact n64s_one _ | assumption) (by simp only [zs, zr, zm, za, zb, zu, zw, zi, zt, zd, zc, zn, *] <;> first | done | omega) ?_
    simp only [List.set_cons_zero, List.set_cons_succ]
    refine vl_nil ?_
    refine (th_n ?_)
    refine VC_seq ?_
    refine VC_region ?_
    refine vl_v (q_fldA fo52_0 (by decide) rfl rfl) rfl ?_
    refine vl_v (q_load 0 Try.underlying3 rfl rfl rfl mailV_id) rfl ?_
    refine vl_v (q_move rfl) rfl ?_
    refine vl_v (q_eql_k Try.underlying3 rfl rfl) rfl ?_
    refine vl_nil ?_
    refine (th_n ?_)
    refine VC_cond rfl (fun ht31 => ?_) (fun ht31 => ?_)
    · skip
      exfalso; exact hno y (List.mem_of_getElem? hy) (of_decide_eq_true ht31)
    · skip
      have ht31 := of_decide_eq_false ht31
      refine VC_skip ?_
      refine (bl_n (th_n ?_))
      refine VC_region ?_
      refine vl_v (q_add_n (q := 1) rfl rfl (by omega)) rfl ?_
      refine vl_v (q_move rfl) rfl ?_
      refine vl_nil ?_
      refine (th_n ?_)
      refine ⟨i + 1, by omega, by omega, (Sub.cons (s := 0) rfl (Sub.cons (s := 1) rfl (Sub.cons (s := 5) rfl (Sub.cons (s := 21) rfl (Sub.cons (s := 22) rfl (Sub.cons (s := 23) rfl (Sub.nil _))))))), fun w H => St.pick H (ks := [1, 2]) (by decide) rfl⟩
  · skip
    refine VC_exit ?_
    refine (th_x (th_x (bl_xs (th_n ?_))))
    refine VC_seq ?_
    refine VC_seq ?_
    refine VC_region ?_
    refine vl_v (q_move rfl) rfl ?_
    refine vl_v (q_as (v := .bool true) (q_lss_k (q := 0) Try.underlying3 rfl rfl) (by simp)) rfl ?_
    refine vl_nil ?_
    refine (th_n ?_)
    refine VC_yes (rfl) ?_
    refine VC_seq ?_
    refine VC_region ?_
    refine vl_v (q_assign rfl) rfl ?_
    refine vl_nil ?_
    refine (th_n ?_)
    refine VC_ret ?_
    refine (th_r (sc_r ?_))
    refine ⟨_, res1 rfl rfl, ?_⟩
    exact ⟨rfl, fun w' H' => H'⟩
set_option maxHeartbeats 4000000 in
theorem ack_ok {S : List Nat} {w0 w : World} {b c many : Nat} {A : Option Addr} {ms : List (Mm × Pl)} (id : Int) (hw : (Lit.int .i64 id).wf = true) (hms : ∀ y ∈ ms, y.1.ok) (hn : ms.length ≤ 8) (H : St S w0 (BoxR b A c ms many) w) (j : Nat) (h : 1 ≤ id) (h2 : id ≤ (many : Int)) (hj : AtM ms id j) (hjl : j < ms.length) :
    Calls Try.prog 11 #[vP b 0, vI id] w fun r w' => r = .returned (vI 0) ∧ ∃ A' c', St S w0 (BoxR b A' c' (ms.eraseIdx j) many) w' := by
  have hml := mailsC_length hms
  have hm1 := mailsC_one ms
  replace H : St S w0 [.blk b 57 [.slice A ms.length c, vN many], .row 52 138 (.slice A ms.length c) ms.length (mailsC ms)] w := H
  refine enter (n := 47) (R := fun r L' => r = .returned (vI 0) ∧ ∀ w', St S w0 L' w' → ∃ A' c', St S w0 (BoxR b A' c' (ms.eraseIdx j) many) w') [vP b 0, vI id] Try.func11 rfl rfl rfl H ?_ (fun e w' L' h H => ⟨h.1, h.2 w' H⟩)
  refine VC_seq ?_
  refine VC_region ?_
  have hme := mails_erase hjl hms
  refine vl_v (q_assign rfl) rfl ?_
  refine vl_nil ?_
  refine (th_n ?_)
  refine VC_scope ?_
  refine VC_seq ?_
  refine VC_seq ?_
  refine VC_region ?_
  refine vl_v (q_move rfl) rfl ?_
  refine vl_v (q_as (v := .bool false) (q_lss_k (q := 1) Try.underlying3 rfl rfl) (by simp; omega)) rfl ?_
  refine vl_v (q_move rfl) rfl ?_
  refine vl_vg rfl (q_move rfl) rfl ?_
  refine vl_vg rfl (q_move rfl) rfl ?_
  refine vl_vg rfl (q_nilck rfl) rfl ?_
  refine vl_vg rfl (q_fldA fo57_1 (by decide) rfl rfl) rfl ?_
  refine vl_vg rfl (q_load 0 Try.underlying3 rfl rfl rfl rfl) rfl ?_
  refine vl_vg rfl (q_as (v := .bool false) (q_gtr_k Try.underlying3 rfl rfl) (by simp; omega)) rfl ?_
  refine vl_v (q_pickF rfl rfl) rfl ?_
  refine vl_nil ?_
  refine (th_n ?_)
  refine VC_no (rfl) ?_
  refine VC_skip ?_
  refine (th_n ?_)
  refine VC_seq ?_
  refine VC_region ?_
  refine vl_v (q_assign rfl) rfl ?_
  refine vl_nil ?_
  refine (th_n ?_)
  refine VC_seq ?_
  refine VC_label ?_
  refine (th_n ?_)
  refine VC_seq ?_
  refine VC_seq ?_
  refine VC_region ?_
  refine vl_v (q_move rfl) rfl ?_
  refine vl_v (q_nilck rfl) rfl ?_
  refine vl_v (q_fldA fo57_0 (by decide) rfl rfl) rfl ?_
  refine vl_v (q_load 0 Try.underlying46 rfl rfl rfl rfl) rfl ?_
  refine vl_v (q_lenS Try.underlying46 rfl) rfl ?_
  refine vl_v (q_move rfl) rfl ?_
  refine vl_nil ?_
  refine (th_n ?_)
  refine VC_block ?_
  refine VC_loop (ι := Nat) (fun i => i ≤ j) (fun i => [(0, vP b 0), (1, vI id), (5, vI (-1)), (21, .slice A ms.length c), (22, vN ms.length), (23, vN i)]) (fun i => [.blk b 57 [.slice A ms.length c, vN many], .row 52 138 (.slice A ms.length c) ms.length (mailsC ms)]) (fun i => ms.length - i) 0 (by omega) (Sub.cons (s := 0) rfl (Sub.cons (s := 1) rfl (Sub.cons (s := 5) rfl (Sub.cons (s := 21) rfl (Sub.cons (s := 22) rfl (Sub.cons (s := 23) rfl (Sub.nil _))))))) (fun w H => H) ?_
  rintro i hp
  refine VC_seq ?_
  refine VC_region ?_
  refine vl_v (q_lss_n Try.underlying3 rfl rfl) rfl ?_
  refine vl_nil ?_
  refine (th_n ?_)
  refine VC_seq ?_
  refine VC_cond rfl (fun ht24 => ?_) (fun ht24 => ?_)
  · skip
    have ht24 := of_decide_eq_true ht24
    obtain ⟨y, hy⟩ : ∃ y, ms[i]? = some y := ⟨_, List.getElem?_eq_getElem ht24⟩
    have hyo := hms y (List.mem_of_getElem? hy)
    have hpt := mailsC_part hms hy
    have lyc : (mailC y.1 y.2).length = 138 := mailV_length hyo
    have oyc : ∀ u ∈ mailC y.1 y.2, u.oneCell' = true := mailV_one rfl
    refine VC_skip ?_
    refine (th_n ?_)
    refine VC_seq ?_
    refine VC_block ?_
    refine VC_seq ?_
    refine VC_region ?_
    refine vl_v (q_move rfl) rfl ?_
    refine vl_v (q_idxRdN (m := i) Try.underlying46 sz52 rfl rfl ht24 (Reads.row 1 rfl) (by rw [hml]; omega)) rfl ?_
    refine vl_v (q_loadsRd Try.underlying52 rfl sz52 rfl (Reads.row 1 rfl) hpt lyc (by omega)) rfl ?_
    refine l_allocA zr52 rfl ?_
    intro b7
    refine vl_v (q_assign rfl) rfl ?_
    refine l_storeA 0 rfl rfl rfl sz52 (by omega) (by with_reducible first | exact bys_one _ | exact u32s_one _ | exact u64s_one _ | exact i64s_one _ | exact n64s_one _ | assumption) (by simp only [zs, zr, zm, za, zb, zu, zw, zi, zt, zd, zc, zn, *] <;> first | done | omega) ?_
    simp only [List.set_cons_zero, List.set_cons_succ]
    refine vl_nil ?_
    refine (th_n ?_)
    refine VC_seq ?_
    refine VC_region ?_
    refine vl_v (q_fldA fo52_0 (by decide) rfl rfl) rfl ?_
    refine vl_v (q_load 0 Try.underlying3 rfl rfl rfl mailV_id) rfl ?_
    refine vl_v (q_move rfl) rfl ?_
    refine vl_v (q_eql_k Try.underlying3 rfl rfl) rfl ?_
    refine vl_nil ?_
    refine (th_n ?_)
    refine VC_cond rfl (fun ht31 => ?_) (fun ht31 => ?_)
    · skip
      have ht31 := of_decide_eq_true ht31
      obtain rfl : i = j := by
        by_cases h9 : i < j
        · exact absurd ht31 (hj.no i y h9 hy)
        · omega
      refine VC_seq ?_
      refine VC_region ?_
      refine vl_v (q_move rfl) rfl ?_
      refine vl_v (q_assign rfl) rfl ?_
      refine vl_nil ?_
      refine (th_n ?_)
      refine VC_exit ?_
      refine (bl_xo rfl (th_x (th_x (bl_xs (th_n ?_)))))
      refine VC_seq ?_
      refine VC_seq ?_
      refine VC_region ?_
      refine vl_v (q_move rfl) rfl ?_
      refine vl_v (q_as (v := .bool false) (q_lss_k (q := 0) Try.underlying3 rfl rfl) (by simp)) rfl ?_
      refine vl_nil ?_
      refine (th_n ?_)
      refine VC_no (rfl) ?_
      refine VC_skip ?_
      refine (th_n ?_)
      refine VC_seq ?_
      refine VC_region ?_
      refine vl_v (q_move rfl) rfl ?_
      refine vl_v (q_move rfl) rfl ?_
      refine vl_v (q_nilck rfl) rfl ?_
      refine vl_v (q_fldA fo57_0 (by decide) rfl rfl) rfl ?_
      refine vl_v (q_load 1 Try.underlying46 rfl rfl rfl rfl) rfl ?_
      refine vl_v (q_move rfl) rfl ?_
      refine vl_v (q_move rfl) rfl ?_
      refine vl_v (q_add_n (q := 1) rfl rfl (by omega)) rfl ?_
      refine l_call (F := fun v L' => ∃ A' c', v = .slice A' (ms.length - 1) c' ∧ L' = [.blk b7 52 (mailC y.1 y.2), .blk b 57 [.slice A ms.length c, vN many], .row 52 138 (.slice A' (ms.length - 1) c') (ms.length - 1) ((mailsC ms).take (i * 138) ++ (mailsC ms).drop ((i + 1) * 138))]) Try.func18 rfl rfl rfl (fun w1 H1 => (delete_calls (q := 2) i H1 rfl hjl hm1).mono fun e w' h => ?_) rfl ?_
      · obtain ⟨v', h1, h9⟩ := h
        obtain ⟨A', c', rfl, _⟩ := Row.slice (h9.get (k := 2) rfl)
        exact ⟨_, _, h1, ⟨A', c', rfl, rfl⟩, h9⟩
      rintro v L' ⟨A', c', rfl, rfl⟩
      refine vl_v (q_nilck rfl) rfl ?_
      refine vl_v (q_fldA fo57_0 (by decide) rfl rfl) rfl ?_
      refine l_store1 1 rfl rfl rfl sz46 rfl (by simp; done) ?_
      simp only [List.set_cons_zero, List.set_cons_succ]
      refine vl_nil ?_
      refine (th_n ?_)
      refine VC_seq ?_
      refine VC_region ?_
      refine vl_v (q_assign rfl) rfl ?_
      refine vl_nil ?_
      refine (th_n ?_)
      refine VC_ret ?_
      refine (sc_r ?_)
      refine ⟨_, res1 rfl rfl, ?_⟩
      refine ⟨rfl, fun w' H' => ⟨A', c', ?_⟩⟩
      have H2 := St.pick H' (ks := [1, 2]) (by decide) rfl
      unfold BoxR
      rw [show (ms.eraseIdx i).length = ms.length - 1 by rw [List.length_eraseIdx, if_pos hjl], hme]
      exact H2
    · skip
      have ht31 := of_decide_eq_false ht31
      have hlt : i < j := by
        by_cases h9 : i < j
        · exact h9
        · obtain rfl : i = j := by omega
          exact absurd (hj.yes y hy) ht31
      refine VC_skip ?_
      refine (bl_n (th_n ?_))
      refine VC_region ?_
      refine vl_v (q_add_n (q := 1) rfl rfl (by omega)) rfl ?_
      refine vl_v (q_move rfl) rfl ?_
      refine vl_nil ?_
      refine (th_n ?_)
      refine ⟨i + 1, by omega, by omega, (Sub.cons (s := 0) rfl (Sub.cons (s := 1) rfl (Sub.cons (s := 5) rfl (Sub.cons (s := 21) rfl (Sub.cons (s := 22) rfl (Sub.cons (s := 23) rfl (Sub.nil _))))))), fun w H => St.pick H (ks := [1, 2]) (by decide) rfl⟩
  · skip
    have ht24 := of_decide_eq_false ht24
    exfalso; omega
end Go.Proofs.Ytadaihpeionniaa
end
section
namespace Go.Proofs.Ytadaihpeionniaa
open Go Go.RowKit Go.PBYtadaihpeionniaa
set_option linter.unusedVariables false
set_option linter.unusedSimpArgs false
set_option maxRecDepth 10000
end Go.Proofs.Ytadaihpeionniaa
end
section
namespace Go.Proofs.Ytadaihpeionniaa
open Go Go.RowKit Go.PBYtadaihpeionniaa
set_option linter.unusedVariables false
set_option linter.unusedSimpArgs false
set_option maxRecDepth 10000
theorem mget_in {l c : List Value} {a i : Nat} {v : Value} (h : (l.drop a).take 138 = c) (hk : c[i]? = some v) (hi : i < 138) : l[a + i]? = some v := by
  rw [← h, List.getElem?_take, if_pos hi, List.getElem?_drop] at hk
  exact hk
end Go.Proofs.Ytadaihpeionniaa
end
section
namespace Go.PBYtadaihpeionniaa
open Go Go.RowKit
abbrev kStamp : List IntKind := [.i64, .i64, .i64, .i64] ++ (List.replicate 32 .u8 ++ List.replicate 32 .u8)
/-- its numbers are numbers of the program -/
structure Mm.fit (m : Mm) : Prop where
  h : Fits (headC m.X.pub m.X.p m.X.q) (List.replicate 32 .u8 ++ [.i64, .i64])
  s : Fits (stC m.s) kStamp
end Go.PBYtadaihpeionniaa
namespace Go.Proofs.Ytadaihpeionniaa
open Go Go.RowKit Go.PBYtadaihpeionniaa
set_option linter.unusedVariables false
set_option linter.unusedSimpArgs false
set_option maxRecDepth 10000
end Go.Proofs.Ytadaihpeionniaa
end
section
namespace Go.PBYtadaihpeionniaa
open Go Go.RowKit
/-- what Put tells, and what is kept then -/
structure PutM where
  id : Nat
  e : Nat
  l : List Mm
  many : Nat
def putM (M : List Mm) (many : Nat) (X : EnvD) (s : StD) : PutM :=
  if enR X = false then ⟨0, 1, M, many⟩ else if 8 ≤ M.length then ⟨0, 8, M, many⟩ else ⟨many + 1, 0, M ++ [⟨((many + 1 : Nat) : Int), X, s⟩], many + 1⟩
end Go.PBYtadaihpeionniaa
namespace Go.Proofs.Ytadaihpeionniaa
open Go Go.RowKit Go.PBYtadaihpeionniaa
set_option linter.unusedVariables false
set_option linter.unusedSimpArgs false
set_option maxRecDepth 10000
theorem mids_length (ms : List (Mm × Pl)) : (mids ms).length = ms.length := by simp [mids]
/-- the bodies of the mails ns, but those of ms, stand in N -/
def Fresh (N : List Res) (ms ns : List (Mm × Pl)) : Prop := ∀ w : World, (∀ r ∈ N, r.ok w) → ∀ y ∈ ns, y ∈ ms ∨ SlAt w y.2.1 (bys y.1.X.body)
theorem fresh_same (ms : List (Mm × Pl)) : Fresh [] ms ms := fun w _ y hy => .inl hy
theorem fresh_one (ms : List (Mm × Pl)) (m : Mm) (x : Pl) : Fresh [bodyR 5 m.X.body x] ms (ms ++ [(m, x)]) := fun w h y hy => by
  rcases List.mem_append.1 hy with hy | hy
  · exact .inl hy
  · rw [List.mem_singleton.1 hy]
    exact .inr (Row.sl (h _ (List.mem_singleton.2 rfl)))
theorem put_calls {w w1 : World} {b c many : Nat} {A : Option Addr} {ms : List (Mm × Pl)} {R : List Res} (X : EnvD) (s : StD) (A0 : Option Addr) (c0 : Nat) (hc : X.cm.length = 32) (hp : X.pub.length = 32) (hs : s.ok) (hms : ∀ y ∈ ms, y.1.ok) (hm : many ≤ 1000) (hb : X.body.length ≤ 1000) (hA0 : SlAt w A0 (bys X.body)) (H : St [] w (BoxR b A c ms many ++ R) w1) :
    Calls Try.prog 9 #[vP b 0, .agg (envOf X (A0, c0)).toArray, .agg (stC s).toArray] w1 fun e w' => ∃ A' c' ms' N, e = .returned (.tuple #[vN (putM (mids ms) many X s).id, vN (putM (mids ms) many X s).e]) ∧ mids ms' = (putM (mids ms) many X s).l ∧ Fresh N ms ms' ∧ St [] w (BoxR b A' c' ms' (putM (mids ms) many X s).many ++ (N ++ R)) w' := by
  unfold putM
  have hR := fun L => Reads.own (L := L) hA0 H
  by_cases h1 : enR X = false
  · rw [if_pos h1]
    exact (put_bad X s A0 c0 hc hp hs hms hR H.own h1).mono fun e w' h => ⟨A, c, ms, [], h.1, rfl, fresh_same ms, H.swap h.2⟩
  · rw [if_neg h1]
    have h1 : enR X = true := by simpa using h1
    by_cases h2 : 8 ≤ (mids ms).length
    · rw [if_pos h2]
      rw [mids_length] at h2
      exact (put_full X s A0 c0 hc hp hs hms hR H.own h1 h2).mono fun e w' h => ⟨A, c, ms, [], h.1, rfl, fresh_same ms, H.swap h.2⟩
    · rw [if_neg h2]
      rw [mids_length] at h2
      exact (put_ok X s A0 c0 hc hp hs hms hR H.own h1 (by omega) hm hb).mono fun e w' ⟨h, A', c', x, h3⟩ => ⟨A', c', ms ++ [(⟨((many + 1 : Nat) : Int), X, s⟩, x)], [bodyR 5 X.body x], h, by simp [mids], fresh_one ms ⟨((many + 1 : Nat) : Int), X, s⟩ x, by have := H.swap h3; rw [List.append_assoc] at this; exact this⟩
end Go.Proofs.Ytadaihpeionniaa
end
section
namespace Go.PBYtadaihpeionniaa
open Go Go.RowKit
def ackM (M : List Mm) (many : Nat) (id : Int) : Nat × List Mm :=
  if id < 1 ∨ (many : Int) < id then (7, M) else if id ∈ M.map Mm.id then (0, M.eraseP fun m => decide (m.id = id)) else (5, M)
end Go.PBYtadaihpeionniaa
namespace Go.Proofs.Ytadaihpeionniaa
open Go Go.RowKit Go.PBYtadaihpeionniaa
set_option linter.unusedVariables false
set_option linter.unusedSimpArgs false
set_option maxRecDepth 10000
theorem at_of {id : Int} : ∀ {ms : List (Mm × Pl)}, id ∈ (mids ms).map Mm.id → ∃ j, AtM ms id j ∧ j < ms.length ∧ mids (ms.eraseIdx j) = (mids ms).eraseP fun m => decide (m.id = id)
  | [], h => by simp [mids] at h
  | y :: r, h => by
    by_cases hy : y.1.id = id
    · refine ⟨0, ⟨Nat.zero_le _, fun i z hi => absurd hi (Nat.not_lt_zero i), fun z hz => ?_⟩, by simp, ?_⟩
      · have : y = z := by simpa using hz
        exact this ▸ hy
      · show mids r = (y.1 :: mids r).eraseP _
        rw [List.eraseP_cons_of_pos (by simpa using hy)]
    · have h' : id ∈ (mids r).map Mm.id := by
        rcases List.mem_cons.1 (show id ∈ y.1.id :: (mids r).map Mm.id from h) with h | h
        · exact absurd h.symm hy
        · exact h
      obtain ⟨j, hj, hl, he⟩ := at_of h'
      refine ⟨j + 1, ⟨by simp; omega, fun i z hi hz => ?_, fun z hz => hj.yes z (by simpa using hz)⟩, by simp; omega, ?_⟩
      · cases i with
        | zero =>
          have : y = z := by simpa using hz
          exact this ▸ hy
        | succ i => exact hj.no i z (by omega) (by simpa using hz)
      · show y.1 :: mids (r.eraseIdx j) = (y.1 :: mids r).eraseP _
        rw [List.eraseP_cons_of_neg (by simpa using hy), he]
theorem at_no {id : Int} {ms : List (Mm × Pl)} (h : id ∉ (mids ms).map Mm.id) : ∀ y ∈ ms, y.1.id ≠ id := fun y hy he => h (List.mem_map.2 ⟨y.1, List.mem_map.2 ⟨y, hy, rfl⟩, he⟩)
theorem ack_calls {S : List Nat} {w0 w1 : World} {b c many : Nat} {A : Option Addr} {ms : List (Mm × Pl)} {R : List Res} (id : Int) (hw : (Lit.int .i64 id).wf = true) (hms : ∀ y ∈ ms, y.1.ok) (hn : ms.length ≤ 8) (H : St S w0 (BoxR b A c ms many ++ R) w1) :
    Calls Try.prog 11 #[vP b 0, vI id] w1 fun e w' => ∃ A' c' ms', e = .returned (vN (ackM (mids ms) many id).1) ∧ mids ms' = (ackM (mids ms) many id).2 ∧ (∀ y ∈ ms', y ∈ ms) ∧ St S w0 (BoxR b A' c' ms' many ++ R) w' := by
  unfold ackM
  by_cases h1 : id < 1 ∨ (many : Int) < id
  · rw [if_pos h1]
    by_cases h2 : id < 1
    · exact (ack_low id hw hms hn H.own h2).mono fun e w' h => ⟨A, c, ms, h.1, rfl, fun y h => h, H.swap h.2⟩
    · exact (ack_high id hw hms hn H.own (by omega) (by omega)).mono fun e w' h => ⟨A, c, ms, h.1, rfl, fun y h => h, H.swap h.2⟩
  · rw [if_neg h1]
    by_cases h2 : id ∈ (mids ms).map Mm.id
    · rw [if_pos h2]
      obtain ⟨j, hj, hl, he⟩ := at_of h2
      exact (ack_ok id hw hms hn H.own j (by omega) (by omega) hj hl).mono fun e w' ⟨h, A', c', h3⟩ => ⟨A', c', _, h, he, fun y hy => List.mem_of_mem_eraseIdx hy, H.swap h3⟩
    · rw [if_neg h2]
      exact (ack_old id hw hms hn H.own (by omega) (by omega) (at_no h2)).mono fun e w' h => ⟨A, c, ms, h.1, rfl, fun y h => h, H.swap h.2⟩
end Go.Proofs.Ytadaihpeionniaa
end
section
namespace Go.Proofs.Ytadaihpeionniaa
open Go Go.RowKit Go.PBYtadaihpeionniaa
set_option linter.unusedVariables false
set_option linter.unusedSimpArgs false
set_option maxRecDepth 10000
set_option maxHeartbeats 4000000 in
theorem qack_high (w : World) (b c many : Nat) (A : Option Addr) (id : Int) (hS : SlAt w (some ⟨b, 0, none⟩) [.slice A 0 c, vN many]) (h : 1 ≤ id) (h2 : (many : Int) < id) :
    Calls Try.prog 11 #[vP b 0, vI id] w fun e w' => e = .returned (vI 7) ∧ Kept [] w w' := by
  refine enter (n := 47) (R := fun e L' => e = .returned (vI 7)) [vP b 0, vI id] Try.func11 rfl rfl rfl (St.refl w) ?_ (fun e w' L' h H => ⟨h, H.kept⟩)
  refine VC_seq ?_
  refine VC_region ?_
  refine vl_v (q_assign rfl) rfl ?_
  refine vl_nil ?_
  refine (th_n ?_)
  refine VC_scope ?_
  refine VC_seq ?_
  refine VC_seq ?_
  refine VC_region ?_
  refine vl_v (q_move rfl) rfl ?_
  refine vl_v (q_as (v := .bool false) (q_lss_k (q := 1) Try.underlying3 rfl rfl) (by simp; omega)) rfl ?_
  refine vl_v (q_move rfl) rfl ?_
  refine vl_vg rfl (q_move rfl) rfl ?_
  refine vl_vg rfl (q_move rfl) rfl ?_
  refine vl_vg rfl (q_nilck rfl) rfl ?_
  refine vl_vg rfl (q_fldA fo57_1 (by decide) rfl rfl) rfl ?_
  refine vl_vg rfl (q_loadR (ad := ⟨b, 0, none⟩) (j := 1) Try.underlying3 rfl rfl (Reads.old hS) rfl) rfl ?_
  refine vl_vg rfl (q_as (v := .bool true) (q_gtr_k Try.underlying3 rfl rfl) (by simp; omega)) rfl ?_
  refine vl_v (q_pickF rfl rfl) rfl ?_
  refine vl_nil ?_
  refine (th_n ?_)
  refine VC_yes (rfl) ?_
  refine VC_seq ?_
  refine VC_region ?_
  refine vl_v (q_assign rfl) rfl ?_
  refine vl_nil ?_
  refine (th_n ?_)
  refine VC_ret ?_
  refine (th_r (sc_r ?_))
  refine ⟨_, res1 rfl rfl, ?_⟩
  exact rfl
set_option maxHeartbeats 4000000 in
theorem qack_old (w : World) (b c many : Nat) (A : Option Addr) (id : Int) (hS : SlAt w (some ⟨b, 0, none⟩) [.slice A 0 c, vN many]) (h : 1 ≤ id) (h2 : id ≤ (many : Int)) :
    Calls Try.prog 11 #[vP b 0, vI id] w fun e w' => e = .returned (vI 5) ∧ Kept [] w w' := by
  refine enter (n := 47) (R := fun e L' => e = .returned (vI 5)) [vP b 0, vI id] Try.func11 rfl rfl rfl (St.refl w) ?_ (fun e w' L' h H => ⟨h, H.kept⟩)
  refine VC_seq ?_
  refine VC_region ?_
  refine vl_v (q_assign rfl) rfl ?_
  refine vl_nil ?_
  refine (th_n ?_)
  refine VC_scope ?_
  refine VC_seq ?_
  refine VC_seq ?_
  refine VC_region ?_
  refine vl_v (q_move rfl) rfl ?_
  refine vl_v (q_as (v := .bool false) (q_lss_k (q := 1) Try.underlying3 rfl rfl) (by simp; omega)) rfl ?_
  refine vl_v (q_move rfl) rfl ?_
  refine vl_vg rfl (q_move rfl) rfl ?_
  refine vl_vg rfl (q_move rfl) rfl ?_
  refine vl_vg rfl (q_nilck rfl) rfl ?_
  refine vl_vg rfl (q_fldA fo57_1 (by decide) rfl rfl) rfl ?_
  refine vl_vg rfl (q_loadR (ad := ⟨b, 0, none⟩) (j := 1) Try.underlying3 rfl rfl (Reads.old hS) rfl) rfl ?_
  refine vl_vg rfl (q_as (v := .bool false) (q_gtr_k Try.underlying3 rfl rfl) (by simp; omega)) rfl ?_
  refine vl_v (q_pickF rfl rfl) rfl ?_
  refine vl_nil ?_
  refine (th_n ?_)
  refine VC_no (rfl) ?_
  refine VC_skip ?_
  refine (th_n ?_)
  refine VC_seq ?_
  refine VC_region ?_
  refine vl_v (q_assign rfl) rfl ?_
  refine vl_nil ?_
  refine (th_n ?_)
  refine VC_seq ?_
  refine VC_label ?_
  refine (th_n ?_)
  refine VC_seq ?_
  refine VC_seq ?_
  refine VC_region ?_
  refine vl_v (q_move rfl) rfl ?_
  refine vl_v (q_nilck rfl) rfl ?_
  refine vl_v (q_fldA fo57_0 (by decide) rfl rfl) rfl ?_
  refine vl_v (q_loadR (ad := ⟨b, 0, none⟩) (j := 0) Try.underlying46 rfl rfl (Reads.old hS) rfl) rfl ?_
  refine vl_v (q_lenS Try.underlying46 rfl) rfl ?_
  refine vl_v (q_move rfl) rfl ?_
  refine vl_nil ?_
  refine (th_n ?_)
  refine VC_block ?_
  refine VC_loop (ι := Nat) (fun i => i ≤ 0) (fun i => [(0, vP b 0), (1, vI id), (5, vI (-1)), (21, .slice A 0 c), (22, vN 0), (23, vN i)]) (fun i => []) (fun i => 0) 0 (by omega) (Sub.cons (s := 0) rfl (Sub.cons (s := 1) rfl (Sub.cons (s := 5) rfl (Sub.cons (s := 21) rfl (Sub.cons (s := 22) rfl (Sub.cons (s := 23) rfl (Sub.nil _))))))) (fun w H => H) ?_
  rintro i hp
  refine VC_seq ?_
  refine VC_region ?_
  refine vl_v (q_lss_n Try.underlying3 rfl rfl) rfl ?_
  refine vl_nil ?_
  refine (th_n ?_)
  refine VC_seq ?_
  refine VC_cond rfl (fun ht24 => ?_) (fun ht24 => ?_)
  · skip
    exfalso; have ht24 := of_decide_eq_true ht24; omega
  · skip
    refine VC_exit ?_
    refine (th_x (th_x (bl_xs (th_n ?_))))
    refine VC_seq ?_
    refine VC_seq ?_
    refine VC_region ?_
    refine vl_v (q_move rfl) rfl ?_
    refine vl_v (q_as (v := .bool true) (q_lss_k (q := 0) Try.underlying3 rfl rfl) (by simp)) rfl ?_
    refine vl_nil ?_
    refine (th_n ?_)
    refine VC_yes (rfl) ?_
    refine VC_seq ?_
    refine VC_region ?_
    refine vl_v (q_assign rfl) rfl ?_
    refine vl_nil ?_
    refine (th_n ?_)
    refine VC_ret ?_
    refine (th_r (sc_r ?_))
    refine ⟨_, res1 rfl rfl, ?_⟩
    exact rfl
end Go.Proofs.Ytadaihpeionniaa
end
section
namespace Go.PBYtadaihpeionniaa
open Go Go.RowKit
set_option linter.unusedVariables false
section
variable {P : Program} {n : Nat} {S : List Nat} {w0 : World} {env : Env} {L : List Res}
variable {d : Tmp} {ty : TypeId} {pos : String} {af : Array Edge} {g : Option (Nat × Bool)}
theorem run_eqPN {T e : TypeId} {ad : Addr} (hT : P.underlying T = some (.pointer e)) (w : World) : (Op.equal T (.pointer (some ad)) (.pointer none)).run P w = .ok false w := by
  show (Op.equalIn (9999 + 1) T (.pointer (some ad)) (.pointer none)).run P w = _
  unfold Op.equalIn
  simp [run_underlying hT]
theorem q_eqPN {T T' e : TypeId} {x y : Operand} {ad : Addr} (hT : P.underlying T = some (.pointer e)) (hx : evalE env x = some (.pointer (some ad))) (hy : evalE env y = some (.pointer none)) :
    QT P n S w0 { dst := some d, op := .binOp .eql T x y T', type := ty, pos, after := af, guard := g } env L (.val (.bool false)) :=
  q_bin hx hy fun w => by
    have h2 : eqGuard .eql T x y (.pointer (some ad)) (.pointer none) = pure () := rfl
    have h3 : binOp .eql T (.pointer (some ad)) (.pointer none) = (do pure (.bool (← Op.equal T (.pointer (some ad)) (.pointer none)))) := rfl
    rw [h2, h3]
    simp [run_eqPN hT]
theorem q_nePN {T T' e : TypeId} {x y : Operand} {ad : Addr} (hT : P.underlying T = some (.pointer e)) (hx : evalE env x = some (.pointer (some ad))) (hy : evalE env y = some (.pointer none)) :
    QT P n S w0 { dst := some d, op := .binOp .neq T x y T', type := ty, pos, after := af, guard := g } env L (.val (.bool true)) :=
  q_bin hx hy fun w => by
    have h2 : eqGuard .neq T x y (.pointer (some ad)) (.pointer none) = pure () := rfl
    have h3 : binOp .neq T (.pointer (some ad)) (.pointer none) = (do pure (.bool (!(← Op.equal T (.pointer (some ad)) (.pointer none))))) := rfl
    rw [h2, h3]
    simp [run_eqPN hT]
end
end Go.PBYtadaihpeionniaa
end
section
namespace Go.PBYtadaihpeionniaa
open Go Go.RowKit
def z19 : List UInt8 := List.replicate 32 0
def X19 : EnvD := ⟨0, 1, z19, z19, 0, 0, []⟩
def s19 : StD := ⟨0, 0, 0, 3, z19, z19⟩
def m19 : Mm := ⟨((1 : Nat) : Int), X19, s19⟩
theorem z19_length : z19.length = 32 := by simp [z19]
theorem m19_ok : m19.ok := ⟨z19_length, z19_length, z19_length, z19_length⟩
theorem put19 : putM [] 0 X19 s19 = ⟨1, 0, [m19], 1⟩ := by
  have h : enR X19 = true := by decide
  unfold putM
  rw [if_neg (by rw [h]; decide), if_neg (by decide)]
  rfl
theorem ack19a : ackM [m19] 1 1 = (0, []) := by
  unfold ackM
  rw [if_neg (by decide), if_pos (by simp [m19])]
  simp [m19]
end Go.PBYtadaihpeionniaa
namespace Go.Proofs.Ytadaihpeionniaa
open Go Go.RowKit Go.PBYtadaihpeionniaa
set_option linter.unusedVariables false
set_option linter.unusedSimpArgs false
set_option maxRecDepth 10000
theorem mids_one {ms : List (Mm × Pl)} {m : Mm} (h : mids ms = [m]) : ∃ x, ms = [(m, x)] := by
  match ms, h with
  | [], h => simp [mids] at h
  | [(a, x)], h => exact ⟨x, by rw [show a = m by simpa [mids] using h]⟩
  | a :: b :: r, h => simp [mids] at h
set_option maxHeartbeats 4000000 in
theorem awake19_calls (w : World) : Calls Try.prog 7 #[] w fun e w' => e = .returned (.bool true) ∧ Kept [] w w' := by
  refine enter (n := 53) (R := fun e L => e = .returned (.bool true)) [] Try.func7 rfl rfl rfl (St.refl w) ?_ (fun e w' L' h H => ⟨h, H.kept⟩)
  refine VC_seq ?_
  refine VC_region ?_
  refine vl_v (q_assign rfl) rfl ?_
  refine vl_nil ?_
  refine (th_n ?_)
  refine VC_seq ?_
  refine VC_region ?_
  refine l_callG Try.func8 rfl rfl rfl (fun w1 H1 => (new_calls w1)) rfl ?_
  intro x6
  refine vl_v (q_assign rfl) rfl ?_
  refine vl_nil ?_
  refine (th_n ?_)
  refine VC_seq ?_
  refine VC_seq ?_
  refine VC_region ?_
  refine vl_v (q_move rfl) rfl ?_
  refine vl_v (q_eqPN Try.underlying24 rfl rfl) rfl ?_
  refine vl_nil ?_
  refine (th_n ?_)
  refine VC_no (rfl) ?_
  refine VC_skip ?_
  refine (th_n ?_)
  refine VC_seq ?_
  refine VC_region ?_
  refine vl_v (q_move rfl) rfl ?_
  refine vl_v (q_build (c' := envOf X19 (none, 0)) rfl (by kernel_rfl)) rfl ?_
  refine vl_v (q_build (c' := stC s19) rfl (by kernel_rfl)) rfl ?_
  refine l_call (F := fun v L' => ∃ A' c' ms' N, v = .tuple #[vN 1, vN 0] ∧ mids ms' = [m19] ∧ L' = BoxR x6 A' c' ms' 1 ++ (N ++ [])) Try.func9 rfl rfl rfl (fun w1 H1 => (put_calls (b := x6) (many := 0) (ms := []) (A := none) (c := 0) (R := []) X19 s19 none 0 z19_length z19_length m19_ok.s (by simp) (by omega) (by decide) (SlAt.nil w none) H1).mono fun e w' h => ?_) rfl ?_
  · obtain ⟨A', c', ms', N, h1, h2, h3, h4⟩ := h
    rw [show mids ([] : List (Mm × Pl)) = [] from rfl, put19] at h1 h2 h4
    exact ⟨_, _, h1, ⟨A', c', ms', N, rfl, h2, rfl⟩, h4⟩
  rintro v L' ⟨A1, c1, ms, N, rfl, hms, rfl⟩
  refine vl_v (q_move rfl) rfl ?_
  refine vl_v (q_ext rfl rfl) rfl ?_
  refine vl_v (q_ext rfl rfl) rfl ?_
  refine vl_v (q_assign rfl) rfl ?_
  refine vl_v (q_assign rfl) rfl ?_
  refine vl_nil ?_
  refine (th_n ?_)
  refine VC_seq ?_
  refine VC_region ?_
  obtain ⟨x, rfl⟩ := mids_one hms
  have hmo1 : ∀ y ∈ [((m19, x) : Mm × Pl)], y.1.ok := fun y hy => by rw [List.mem_singleton.1 hy]; exact m19_ok
  have hL := fun w1 hS hA => list_calls w1 x6 c1 1 A1 [(m19, x)] hmo1 (fun y hy => by rw [List.mem_singleton.1 hy]; show (0 : Nat) ≤ 1000; omega) (by show (1 : Nat) ≤ 8; omega) hS hA (fun y hy => by rw [List.mem_singleton.1 hy]; exact SlAt.nil _ _)
  refine vl_v (q_move rfl) rfl ?_
  refine l_call (F := fun v L' => ∃ B k y N', v = .slice B 1 k ∧ L' = ([.row 52 138 (.slice B 1 k) 1 (mailC m19 y)] ++ N') ++ (BoxR x6 A1 c1 [(m19, x)] 1 ++ (N ++ []))) Try.func14 rfl rfl rfl (fun w1 H1 => (hL w1 (Reads.blk 0 rfl w1 H1) (Reads.row 1 rfl w1 H1)).mono fun e w' h => ?_) rfl ?_
  · obtain ⟨⟨⟨B, k⟩, zs⟩, h1, h2, h3⟩ := h
    obtain ⟨y, rfl⟩ := mids_one h2
    rw [mailsC_one1] at h3
    exact ⟨_, _, h1, ⟨B, k, y, _, rfl, rfl⟩, (H1.join h3).perm List.perm_append_comm⟩
  rintro v L' ⟨B, k, y, N', rfl, rfl⟩
  refine vl_v (q_assign rfl) rfl ?_
  refine vl_nil ?_
  refine (th_n ?_)
  refine VC_seq ?_
  refine VC_region ?_
  refine vl_v (q_move rfl) rfl ?_
  refine l_call (F := fun v L' => ∃ A' c', v = vN 0 ∧ L' = BoxR x6 A' c' [] 1 ++ ((N ++ []) ++ ([.row 52 138 (.slice B 1 k) 1 (mailC m19 y)] ++ N'))) Try.func11 rfl rfl rfl (fun w1 H1 => (ack_calls (b := x6) (many := 1) (ms := [(m19, x)]) 1 (by decide) hmo1 (by show (1 : Nat) ≤ 8; omega) (by have h9 := H1.perm List.perm_append_comm; rw [List.append_assoc] at h9; exact h9)).mono fun e w' h => ?_) rfl ?_
  · obtain ⟨A', c', ms', h1, h2, h3, h4⟩ := h
    rw [show mids [((m19, x) : Mm × Pl)] = [m19] from rfl, ack19a] at h1 h2
    obtain rfl : ms' = [] := by cases ms' with | nil => rfl | cons a r => simp [mids] at h2
    exact ⟨_, _, h1, ⟨A', c', rfl, rfl⟩, h4⟩
  rintro v L' ⟨A2, c2, rfl, rfl⟩
  refine vl_v (q_assign rfl) rfl ?_
  refine vl_nil ?_
  refine (th_n ?_)
  refine VC_seq ?_
  refine VC_region ?_
  have hg : (mailC m19 y)[0 * 138 + 70 + 3]? = some (vN 3) := rfl
  refine vl_v (q_move rfl) rfl ?_
  refine vl_v (q_true (q_eql_n (q := 1) Try.underlying3 rfl rfl) (decide_eq_true rfl)) rfl ?_
  refine vl_v (q_move rfl) rfl ?_
  refine vl_vg rfl (q_move rfl) rfl ?_
  refine vl_vg rfl (q_true (q_eql_n (q := 0) Try.underlying41 rfl rfl) (decide_eq_true rfl)) rfl ?_
  refine vl_v (q_pickT rfl rfl) rfl ?_
  refine vl_v (q_move rfl) rfl ?_
  refine vl_vg rfl (q_move rfl) rfl ?_
  refine vl_vg rfl (q_lenS Try.underlying46 rfl) rfl ?_
  refine vl_vg rfl (q_true (q_eql_n (q := 1) Try.underlying3 rfl rfl) (decide_eq_true rfl)) rfl ?_
  refine vl_v (q_pickT rfl rfl) rfl ?_
  refine vl_v (q_move rfl) rfl ?_
  refine vl_vg rfl (q_move rfl) rfl ?_
  refine vl_vg rfl (q_idxRdN (m := 0) Try.underlying46 sz52 rfl rfl (by decide) (fun w' H' => Row.sl (H'.ok (.row 52 138 (.slice B 1 k) 1 (mailC m19 y)) (by simp))) (by rw [show (mailC m19 y).length = 138 from mailV_length m19_ok]; omega)) rfl ?_
  refine vl_vg rfl (q_fldRd fo52_2 (by decide) rfl rfl) rfl ?_
  refine vl_vg rfl (q_fldRd fo38_3 (by decide) rfl rfl) rfl ?_
  refine vl_vg rfl (q_loadRd Try.underlying3 rfl rfl (fun w' H' => Row.sl (H'.ok (.row 52 138 (.slice B 1 k) 1 (mailC m19 y)) (by simp))) hg) rfl ?_
  refine vl_vg rfl (q_true (q_eql_n (q := 3) Try.underlying3 rfl rfl) (decide_eq_true rfl)) rfl ?_
  refine vl_v (q_pickT rfl rfl) rfl ?_
  refine vl_v (q_move rfl) rfl ?_
  refine vl_vg rfl (q_move rfl) rfl ?_
  refine vl_vg rfl (q_true (q_eql_n (q := 0) Try.underlying41 rfl rfl) (decide_eq_true rfl)) rfl ?_
  refine vl_v (q_pickT rfl rfl) rfl ?_
  refine vl_v (q_move rfl) rfl ?_
  refine vl_vg rfl (q_move rfl) rfl ?_
  refine vl_vg rfl (q_callV Try.func11 rfl rfl rfl (fun w1 H1 => qack_old w1 x6 c2 1 A2 1 (Reads.blk 0 rfl w1 H1) (by omega) (by omega))) rfl ?_
  refine vl_vg rfl (q_true (q_eql_k (q := 5) Try.underlying41 rfl rfl) (decide_eq_true rfl)) rfl ?_
  refine vl_v (q_pickT rfl rfl) rfl ?_
  refine vl_v (q_move rfl) rfl ?_
  refine vl_vg rfl (q_move rfl) rfl ?_
  refine vl_vg rfl (q_callV Try.func11 rfl rfl rfl (fun w1 H1 => qack_high w1 x6 c2 1 A2 2 (Reads.blk 0 rfl w1 H1) (by omega) (by omega))) rfl ?_
  refine vl_vg rfl (q_true (q_eql_k (q := 7) Try.underlying41 rfl rfl) (decide_eq_true rfl)) rfl ?_
  refine vl_v (q_pickT rfl rfl) rfl ?_
  refine vl_v (q_assign rfl) rfl ?_
  refine vl_nil ?_
  refine (th_n ?_)
  refine VC_ret ?_
  refine ⟨_, res1 rfl rfl, ?_⟩
  exact rfl
end Go.Proofs.Ytadaihpeionniaa
end
section
namespace Go.PBYtadaihpeionniaa
open Go Go.RowKit
structure OpM where
  d : Int
  id : Int
  X : EnvD
  x : Pl
  s : StD
def OpM.cells (o : OpM) : List Value := [vI o.d, vI o.id] ++ (envOf o.X o.x ++ stC o.s)
structure OpM.ok (w : World) (o : OpM) : Prop where
  d : (Lit.int .i64 o.d).wf = true
  id : (Lit.int .i64 o.id).wf = true
  cm : o.X.cm.length = 32
  pub : o.X.pub.length = 32
  s : o.s.ok
  h : Fits (headC o.X.pub o.X.p o.X.q) (List.replicate 32 .u8 ++ [.i64, .i64])
  fs : Fits (stC o.s) kStamp
  c : o.X.body.length ≤ o.x.2
  b : SlAt w o.x.1 (bys o.X.body)
end Go.PBYtadaihpeionniaa
namespace Go.Proofs.Ytadaihpeionniaa
open Go.RowKit Go.PBYtadaihpeionniaa
set_option linter.unusedVariables false
set_option linter.unusedSimpArgs false
set_option maxRecDepth 100000
structure OpMF (cs : List Value) (o : OpM) : Prop where
  g0 : cs[0]? = some (vI o.d)
  g1 : cs[1]? = some (vI o.id)
  g2 : (cs.drop 2).take 69 = envOf o.X o.x
  g3 : (cs.drop 71).take 68 = stC o.s
  g4 : cs[70]? = some (.slice o.x.1 o.X.body.length o.x.2)
end Go.Proofs.Ytadaihpeionniaa
end
section
namespace Go.Proofs.Ytadaihpeionniaa
open Go Go.RowKit Go.PBYtadaihpeionniaa
set_option linter.unusedVariables false
set_option linter.unusedSimpArgs false
def Mm.good (m : Mm) : Prop := m.ok ∧ m.fit ∧ m.X.body.length ≤ 1000
/-- the bodies of ms are read out of G -/
def Bods (G : List Res) (ms : List (Mm × Pl)) : Prop := ∀ w : World, (∀ g ∈ G, g.ok w) → ∀ y ∈ ms, SlAt w y.2.1 (bys y.1.X.body)
theorem Bods.more {G : List Res} {ms : List (Mm × Pl)} (N : List Res) (h : Bods G ms) : Bods (N ++ G) ms := fun w hw y hy => h w (fun g hg => hw g (List.mem_append_right _ hg)) y hy
theorem Bods.new {G N : List Res} {ms ns : List (Mm × Pl)} (h : Bods G ms) (hF : Fresh N ms ns) : Bods (N ++ G) ns := fun w hw y hy => by
  rcases hF w (fun g hg => hw g (List.mem_append_left _ hg)) y hy with h1 | h1
  · exact h.more N w hw y h1
  · exact h1
theorem Bods.less {G : List Res} {ms ns : List (Mm × Pl)} (h : Bods G ms) (hs : ∀ y ∈ ns, y ∈ ms) : Bods G ns := fun w hw y hy => h w hw y (hs y hy)
/-- where a turn stands -/
structure PSt where
  i : Nat
  many : Nat
  A : Option Addr
  c : Nat
  ms : List (Mm × Pl)
  B : Option Addr
  k : Nat
  r : Res
  ns : List (Mm × Pl)
  G : List Res
structure PSt.ok (n : Nat) (x : PSt) : Prop where
  le : x.i ≤ n
  my : x.many ≤ x.i
  eq : mids x.ms = mids x.ns
  ok : ∀ y ∈ x.ms, Mm.good y.1
  l8 : x.ms.length ≤ 8
  hr : ∀ w'', x.r.ok w'' → SlAt w'' x.B (mailsC x.ns)
  hk : x.ns.length ≤ x.k
  g1 : Bods x.G x.ms
  g2 : Bods x.G x.ns
end Go.Proofs.Ytadaihpeionniaa
end
section
namespace Go.PBYtadaihpeionniaa
open Go Go.RowKit Go.ChangeShapes Go.WideShapes Go.ChangeAt
set_option linter.unusedVariables false
def boolsC (l : List Bool) : List Value := l.map Value.bool
theorem boolsC_length (l : List Bool) : (boolsC l).length = l.length := by simp [boolsC]
theorem boolsC_at {l : List Bool} {i : Nat} {q : Bool} (h : l[i]? = some q) : (boolsC l)[i]? = some (.bool q) := by simp [boolsC, h]
/-- an envelope with a zero head -/
def X19f (f t : Nat) (body : List UInt8) : EnvD := ⟨f, t, z19, z19, 0, 0, body⟩
def s19f (t : Nat) : StD := ⟨0, 0, 0, t, z19, z19⟩
theorem enR_f {f t : Nat} {body : List UInt8} (hf : f ≤ 7) (ht : t ≤ 7) (hb : body.length ≤ 600) : enR (X19f f t body) = true :=
  rightEB_iff.2 ⟨⟨Int.natCast_nonneg _, by show (f : Int) ≤ 7; omega, Int.natCast_nonneg _, by show (t : Int) ≤ 7; omega⟩, (by decide : rightB 0 0 = true), hb⟩
theorem put_full19 {M : List Mm} {many : Nat} {X : EnvD} {s : StD} (h : enR X = true) (h8 : 8 ≤ M.length) : putM M many X s = ⟨0, 8, M, many⟩ := by
  unfold putM
  rw [if_neg (by rw [h]; decide), if_pos h8]
theorem put_kept19 {M : List Mm} {many : Nat} {X : EnvD} {s : StD} (h : enR X = true) (h8 : M.length < 8) : putM M many X s = ⟨many + 1, 0, M ++ [⟨((many + 1 : Nat) : Int), X, s⟩], many + 1⟩ := by
  unfold putM
  rw [if_neg (by rw [h]; decide), if_neg (by omega)]
/-- the numbers go up, and none is above the last that was told -/
structure Ups (M : List Mm) (many : Nat) : Prop where
  up : (M.map Mm.id).Pairwise (· < ·)
  rng : ∀ m ∈ M, 1 ≤ m.id ∧ m.id ≤ (many : Int)
theorem Ups.nil (many : Nat) : Ups [] many := ⟨by simp, by simp⟩
theorem Ups.put {M : List Mm} {many : Nat} (h : Ups M many) (X : EnvD) (s : StD) : Ups (M ++ [⟨((many + 1 : Nat) : Int), X, s⟩]) (many + 1) := by
  refine ⟨?_, fun m hm => ?_⟩
  · rw [List.map_append]
    refine List.pairwise_append.2 ⟨h.up, by simp, fun x hx y hy => ?_⟩
    obtain ⟨m, hm, rfl⟩ := List.mem_map.1 hx
    have := (h.rng m hm).2
    simp only [List.map_cons, List.map_nil, List.mem_singleton] at hy
    subst hy
    omega
  · rcases List.mem_append.1 hm with h1 | h1
    · have := h.rng m h1; omega
    · rw [List.mem_singleton.1 h1]; show (1 : Int) ≤ ((many + 1 : Nat) : Int) ∧ ((many + 1 : Nat) : Int) ≤ ((many + 1 : Nat) : Int); omega
theorem Ups.erase {M : List Mm} {many : Nat} (h : Ups M many) (p : Mm → Bool) : Ups (M.eraseP p) many :=
  ⟨h.up.sublist (List.Sublist.map _ (List.eraseP_sublist ..)), fun m hm => h.rng m (List.mem_of_mem_eraseP hm)⟩
theorem ack_kept19 {M : List Mm} {many : Nat} {id : Int} (h : Ups M many) (hi : id ∈ M.map Mm.id) : ackM M many id = (0, M.eraseP fun m => decide (m.id = id)) := by
  unfold ackM
  obtain ⟨m, hm, rfl⟩ := List.mem_map.1 hi
  have := h.rng m hm
  rw [if_neg (by omega), if_pos hi]
end Go.PBYtadaihpeionniaa
namespace Go.Proofs.Ytadaihpeionniaa
open Go Go.RowKit Go.PBYtadaihpeionniaa
set_option linter.unusedVariables false
set_option linter.unusedSimpArgs false
set_option maxRecDepth 10000
set_option maxHeartbeats 4000000 in
theorem put_gen {S : List Nat} {w0 w1 : World} {b c many : Nat} {A : Option Addr} {ms : List (Mm × Pl)} {R : List Res} (X : EnvD) (s : StD) (A0 : Option Addr) (c0 : Nat) (hc : X.cm.length = 32) (hp : X.pub.length = 32) (hs : s.ok) (hms : ∀ y ∈ ms, y.1.ok) (hm : many ≤ 1000) (hb : X.body.length ≤ 1000) (H : St S w0 (BoxR b A c ms many ++ R) w1) (hR : ∀ L, Reads (ats (BoxR b A c ms many)) w1 L A0 (bys X.body)) :
    Calls Try.prog 9 #[vP b 0, .agg (envOf X (A0, c0)).toArray, .agg (stC s).toArray] w1 fun e w' => ∃ A' c' ms' N, e = .returned (.tuple #[vN (putM (mids ms) many X s).id, vN (putM (mids ms) many X s).e]) ∧ mids ms' = (putM (mids ms) many X s).l ∧ Fresh N ms ms' ∧ St S w0 (BoxR b A' c' ms' (putM (mids ms) many X s).many ++ (N ++ R)) w' := by
  unfold putM
  by_cases h1 : enR X = false
  · rw [if_pos h1]
    exact (put_bad X s A0 c0 hc hp hs hms hR H.own h1).mono fun e w' h => ⟨A, c, ms, [], h.1, rfl, fresh_same ms, H.swap h.2⟩
  · rw [if_neg h1]
    have h1 : enR X = true := by simpa using h1
    by_cases h2 : 8 ≤ (mids ms).length
    · rw [if_pos h2]
      rw [mids_length] at h2
      exact (put_full X s A0 c0 hc hp hs hms hR H.own h1 h2).mono fun e w' h => ⟨A, c, ms, [], h.1, rfl, fresh_same ms, H.swap h.2⟩
    · rw [if_neg h2]
      rw [mids_length] at h2
      exact (put_ok X s A0 c0 hc hp hs hms hR H.own h1 (by omega) hm hb).mono fun e w' ⟨h, A', c', x, h3⟩ => ⟨A', c', ms ++ [(⟨((many + 1 : Nat) : Int), X, s⟩, x)], [bodyR 5 X.body x], h, by simp [mids], fresh_one ms ⟨((many + 1 : Nat) : Int), X, s⟩ x, by have := H.swap h3; rw [List.append_assoc] at this; exact this⟩
end Go.Proofs.Ytadaihpeionniaa
end
section
namespace Go.PBYtadaihpeionniaa
open Go Go.RowKit
set_option linter.unusedVariables false
set_option linter.unusedSimpArgs false
section
variable {P : Program} {n : Nat} {S : List Nat} {w0 : World} {d : Tmp} {ty : TypeId} {pos : String} {af : Array Edge} {g : Option (Nat × Bool)} {env : Env} {L : List Res}
theorem q_neBo19 {T T' : TypeId} {x y : Operand} {p q : Bool} (hT : P.underlying T = some .bool) (hx : evalE env x = some (.bool p)) (hy : evalE env y = some (.bool q)) :
    QT P n S w0 { dst := some d, op := .binOp .neq T x y T', type := ty, pos, after := af, guard := g } env L (.val (.bool (!(p == q)))) :=
  q_bin hx hy fun w => by
    have h1 : (Op.equal T (.bool p) (.bool q)).run P w = .ok (p == q) w := run_equalIn_bool w 9999 T p q hT
    have h2 : eqGuard .neq T x y (.bool p) (.bool q) = pure () := rfl
    have h3 : binOp .neq T (.bool p) (.bool q) = (do pure (.bool (!(← Op.equal T (.bool p) (.bool q))))) := by cases p <;> cases q <;> rfl
    rw [h2, h3]
    simp [h1]
end
def mO (j : Nat) : Mm := ⟨((j + 1 : Nat) : Int), X19f (j % 8) 1 [UInt8.ofNat j], s19f j⟩
def onceM (n : Nat) : List Mm := (List.range n).map mO
theorem onceM_succ (n : Nat) : onceM (n + 1) = onceM n ++ [mO n] := by simp [onceM, List.range_succ]
theorem onceM_length (n : Nat) : (onceM n).length = n := by simp [onceM]
theorem onceM_ups : ∀ n, Ups (onceM n) n
  | 0 => Ups.nil 0
  | n + 1 => by rw [onceM_succ]; exact (onceM_ups n).put _ _
theorem onceM_ti {n : Nat} : ∀ m ∈ onceM n, m.s.ti = m.id - 1 := by
  intro m hm
  obtain ⟨j, _, rfl⟩ := List.mem_map.1 hm
  show (j : Int) = ((j + 1 : Nat) : Int) - 1
  omega
theorem onceM_mem {n j : Nat} (h1 : 1 ≤ j) (h2 : j ≤ n) : (j : Int) ∈ (onceM n).map Mm.id := by
  refine List.mem_map.2 ⟨mO (j - 1), List.mem_map.2 ⟨j - 1, List.mem_range.2 (by omega), rfl⟩, ?_⟩
  show ((j - 1 + 1 : Nat) : Int) = (j : Int)
  omega
theorem boolsC_set (l : List Bool) (j : Nat) (x : Bool) : (boolsC l).set j (.bool x) = boolsC (l.set j x) := by simp [boolsC, List.map_set]
theorem boolsC_rep (n : Nat) : List.replicate n (Value.bool false) = boolsC (List.replicate n false) := by simp [boolsC]
theorem mailV_time {m : Mm} {sl : Value} (h : m.ok) : (mailV m sl)[73]? = some (vI m.s.ti) := by
  show (envC m.X.f m.X.t m.X.cm m.X.pub m.X.p m.X.q sl ++ stC m.s)[72]? = _
  rw [List.getElem?_append_right (by rw [mEnv_len h]; omega), mEnv_len h]
  rfl
/-- what was let go is no more there -/
structure Gone (n : Nat) (M : List Mm) (g : List Bool) : Prop where
  len : g.length = n + 2
  at_ : ∀ j : Nat, 1 ≤ j → j ≤ n → g[j]? = some (!decide ((j : Int) ∈ M.map Mm.id))
theorem gone_start {n : Nat} {M : List Mm} (h : ∀ j : Nat, 1 ≤ j → j ≤ n → (j : Int) ∈ M.map Mm.id) : Gone n M (List.replicate (n + 2) false) := by
  refine ⟨by simp, fun j h1 h2 => ?_⟩
  rw [decide_eq_true (h j h1 h2), List.getElem?_replicate, if_pos (by omega)]
  rfl
theorem erase_ids {id x : Int} : ∀ {M : List Mm}, (M.map Mm.id).Pairwise (· < ·) → (x ∈ (M.eraseP fun m => decide (m.id = id)).map Mm.id ↔ x ∈ M.map Mm.id ∧ x ≠ id)
  | [], _ => by simp
  | m :: r, hp => by
    rw [List.map_cons] at hp
    have hr := (List.pairwise_cons.1 hp).1
    by_cases h : m.id = id
    · rw [List.eraseP_cons_of_pos (by simpa using h), List.map_cons, List.mem_cons]
      constructor
      · intro hx
        have := hr x hx
        exact ⟨.inr hx, by omega⟩
      · rintro ⟨hx | hx, hne⟩
        · exact absurd (hx.trans h) hne
        · exact hx
    · rw [List.eraseP_cons_of_neg (by simpa using h), List.map_cons, List.map_cons, List.mem_cons, List.mem_cons, erase_ids (List.pairwise_cons.1 hp).2]
      constructor
      · rintro (hx | ⟨hx, hne⟩)
        · exact ⟨.inl hx, fun h2 => h (hx.symm.trans h2)⟩
        · exact ⟨.inr hx, hne⟩
      · rintro ⟨hx | hx, hne⟩
        · exact .inl hx
        · exact .inr ⟨hx, hne⟩
theorem Gone.step {n d : Nat} {M M' : List Mm} {g : List Bool} (h : Gone n M g) (h1 : 1 ≤ d) (h2 : d ≤ n) (hM : ∀ x : Int, x ∈ M'.map Mm.id ↔ x ∈ M.map Mm.id ∧ x ≠ (d : Int)) : Gone n M' (g.set d true) := by
  refine ⟨by rw [List.length_set]; exact h.len, fun j h3 h4 => ?_⟩
  by_cases hj : j = d
  · subst hj
    rw [List.getElem?_set_self (by rw [h.len]; omega), decide_eq_false (fun hx => ((hM _).1 hx).2 rfl)]
    rfl
  · rw [List.getElem?_set_ne (fun h => hj h.symm), h.at_ j h3 h4]
    congr 2
    rw [decide_eq_decide, hM]
    exact ⟨fun hx => ⟨hx, by omega⟩, fun hx => hx.1⟩
/-- what is kept in the loop of MailboxOnce -/
structure OnceOk (n many : Nat) (M : List Mm) : Prop where
  ups : Ups M many
  ok : ∀ m ∈ M, m.X.body.length ≤ 1000 ∧ m.ok
  l8 : M.length ≤ 8
  ti : ∀ m ∈ M, m.id ≤ (n : Int) → m.s.ti = m.id - 1
  nm : n ≤ many
theorem OnceOk.erase {n many : Nat} {M : List Mm} (h : OnceOk n many M) (p : Mm → Bool) : OnceOk n many (M.eraseP p) :=
  ⟨h.ups.erase p, fun m hm => h.ok m (List.mem_of_mem_eraseP hm), Nat.le_trans List.length_eraseP_le h.l8, fun m hm => h.ti m (List.mem_of_mem_eraseP hm), h.nm⟩
theorem onceM_ok (n : Nat) : ∀ m ∈ onceM n, m.X.body.length ≤ 1000 ∧ m.ok := by
  intro m hm
  obtain ⟨j, _, rfl⟩ := List.mem_map.1 hm
  exact ⟨by show (1 : Nat) ≤ 1000; omega, z19_length, z19_length, z19_length, z19_length⟩
/-- one more is put -/
theorem once_last {n : Nat} (h : n ≤ 8) : ∃ M many, putM (onceM n) n (X19f 0 0 []) (s19f 0) = ⟨if n = 8 then 0 else n + 1, if n = 8 then 8 else 0, M, many⟩ ∧ OnceOk n many M ∧ (∀ j : Nat, 1 ≤ j → j ≤ n → (j : Int) ∈ M.map Mm.id) := by
  have hE : enR (X19f 0 0 []) = true := enR_f (by omega) (by omega) (by simp)
  by_cases h8 : n = 8
  · rw [if_pos h8, if_pos h8, put_full19 hE (by rw [onceM_length]; omega)]
    exact ⟨_, _, rfl, ⟨onceM_ups n, onceM_ok n, by rw [onceM_length]; exact h, fun m hm _ => onceM_ti m hm, Nat.le_refl _⟩, fun j h1 h2 => onceM_mem h1 h2⟩
  · rw [if_neg h8, if_neg h8, put_kept19 hE (by rw [onceM_length]; omega)]
    refine ⟨_, _, rfl, ⟨(onceM_ups n).put _ _, fun m hm => ?_, by rw [List.length_append, onceM_length, List.length_singleton]; omega, fun m hm hn => ?_, Nat.le_succ n⟩, fun j h1 h2 => ?_⟩
    · rcases List.mem_append.1 hm with hm | hm
      · exact onceM_ok n m hm
      · rw [List.mem_singleton.1 hm]
        exact ⟨Nat.zero_le _, z19_length, z19_length, z19_length, z19_length⟩
    · rcases List.mem_append.1 hm with hm | hm
      · exact onceM_ti m hm
      · rw [List.mem_singleton.1 hm] at hn
        have hn : ((n + 1 : Nat) : Int) ≤ (n : Int) := hn
        omega
    · rw [List.map_append]
      exact List.mem_append_left _ (onceM_mem h1 h2)
end Go.PBYtadaihpeionniaa
end
section
namespace Go.PBYtadaihpeionniaa
open Go Go.RowKit Go.ChangeShapes Go.WideShapes Go.ChangeAt
set_option linter.unusedVariables false
section
variable {H : Type} {enc : TypeId × Value → H} {P : Program} {w : World} {r : Reach} {b0 : Nat}
/-- whole numbers as an argument -/
def IsArg (w : World) (v : Value) (l : List Int) : Prop := ∃ A c, v = .slice A l.length c ∧ l.length ≤ c ∧ SlAt w A (i64s l)
theorem open_i64s {t e : TypeId} {v : Value} {d : DataW H} {p : List MemPlace} (ht : P.underlying t = some (.slice e)) (he : P.underlying e = some (.int .i64)) (hc : P.cellsOf e = 1)
    (hv : Value.okWide P w r b0 t v) (h : DataW.Trod enc P w 0 (fun _ => true) true t v d p) : ∃ l, IsArg w v l := by
  obtain ⟨a, len, cap, rfl⟩ := okWide_slice ht hv
  obtain ⟨fuel, hf⟩ := h
  rcases open_ints ht he hc hf with ⟨hcs, _⟩ | ⟨x, l, c, zs, hcs, _, hl, hm, hz, _, hcell, hwz⟩
  · simp [Value.cells] at hcs
    obtain ⟨rfl, rfl, rfl⟩ := hcs
    exact ⟨[], none, 0, rfl, Nat.le_refl _, SlAt.nil _ _⟩
  · simp [Value.cells] at hcs
    obtain ⟨rfl, rfl, rfl⟩ := hcs
    simp only [if_true] at hz
    have e : (zs.take len).length = len := by rw [List.length_take]; omega
    refine ⟨zs.take len, some x, cap, by rw [e], by rw [e]; exact hl, ?_⟩
    intro j v hj
    have hj' : j < (zs.take len).length := by have := (List.getElem?_eq_some_iff.1 hj).1; rwa [i64s_length] at this
    refine ⟨x, rfl, ?_⟩
    rw [hcell j (by rw [List.length_take] at hj'; omega), ← hj, i64s_at hj']
    congr 2
    rw [List.getD_eq_getElem?_getD, List.getD_eq_getElem?_getD, List.getElem?_take, if_pos (by omega)]
end
end Go.PBYtadaihpeionniaa
end
