/- Any head's bytes, and the head of any bytes: the statement HeadReads. No condition. -/
import Derived.Test.YtpjjledbmfmbiaaRows
import Derived.Test.YtpjjledbmfmbiaaA12b
namespace Go.Proofs.Ytpjjledbmfmbiaa
open Go.RowKit Go.PBYtpjjledbmfmbiaa
set_option linter.unusedVariables false
set_option linter.unusedSimpArgs false
set_option maxRecDepth 10000

def law12r (pub : List UInt8) (p q : Int) (l : List UInt8) (w : World) (B : Option Addr) (m c : Nat) : Prop :=
  Calls Try.prog 3 #[.agg (headC pub p q).toArray, .slice B m c] w fun e w' => e = .returned (.bool true) ∧ Kept [] w w'
set_option maxHeartbeats 2000000 in
theorem reads_long (pub : List UInt8) (p q : Int) (l : List UInt8) (w : World) (B : Option Addr) (m c : Nat) (hp : pub.length = 32) (hm : 1000 < m) : law12r pub p q l w B m c := by
  obtain ⟨h, hh⟩ : ∃ h, headC pub p q = h := ⟨_, rfl⟩
  unfold law12r
  rw [hh]
  refine enter (n := 62) (R := fun e L => e = .returned (.bool true)) [.agg h.toArray, .slice B m c] Try.func3 rfl rfl rfl (St.refl w) ?_ (fun e w' L' h H => ⟨h, H.kept⟩)
  refine VC_seq ?_
  refine VC_region ?_
  refine l_boxA rfl rfl ?_
  intro b2
  refine vl_v (q_assign rfl) rfl ?_
  refine vl_nil ?_
  refine (th_n ?_)
  refine VC_seq ?_
  refine VC_region ?_
  refine vl_v (q_callV Try.func8 rfl rfl rfl (fun w1 H1 => awake12_calls w1)) rfl ?_
  refine vl_v (q_assign rfl) rfl ?_
  refine vl_nil ?_
  refine (th_n ?_)
  refine VC_seq ?_
  refine VC_seq ?_
  refine VC_region ?_
  refine vl_v (q_move rfl) rfl ?_
  refine vl_v (q_lenS Try.underlying26 rfl) rfl ?_
  first | (refine vl_v (q_gtr_n (q := 1000) Try.underlying3 rfl rfl) rfl ?_) | (refine vl_v (q_gtr_k Try.underlying3 rfl rfl) rfl ?_)
  refine vl_nil ?_
  refine (th_n ?_)
  refine VC_cond rfl (fun ht17 => ?_) (fun ht17 => ?_)
  · skip
    have ht17 := of_decide_eq_true ht17
    refine VC_seq ?_
    refine VC_region ?_
    refine vl_v (q_move rfl) rfl ?_
    refine vl_v (q_assign rfl) rfl ?_
    refine vl_nil ?_
    refine (th_n ?_)
    refine VC_ret ?_
    refine (th_r ?_)
    refine ⟨_, res1 rfl rfl, ?_⟩
    exact rfl
  · skip
    exfalso; have ht17 := of_decide_eq_false ht17; omega
set_option maxHeartbeats 2000000 in
theorem reads_right (pub : List UInt8) (x y : Nat) (l : List UInt8) (w : World) (B : Option Addr) (m c : Nat) (hp : pub.length = 32) (hm : m = l.length) (hc : m ≤ c) (hm2 : m ≤ 1000) (hB : SlAt w B (bys l)) (hr : rightB x y = true) : law12r pub x y l w B m c := by
  have hr2 := rightB_iff.1 hr
  have hb1 := fun w => hbytes_ok pub x y hp (by omega) (by omega) w
  have hb2 := fun w => rbytes_ok pub x y hp (by omega) (by omega) w
  have hl1 := headC_length hp x y
  have lu := headB_length hp x y
  obtain ⟨h, hh⟩ : ∃ h, headC pub x y = h := ⟨_, rfl⟩
  obtain ⟨u, hu⟩ : ∃ u, headB pub x y = u := ⟨_, rfl⟩
  unfold law12r
  rw [hh] at hl1 hb1 hb2 ⊢
  rw [hu] at hb1 hb2 lu
  have hrd1 := fun w1 hs => read_calls l B m c hm hc w1 hs
  have hrd2 := fun w1 hs => rread_calls l B m c hm hc (by omega) w1 hs
  have hf := rdC_fits l
  have hl := rdC_length l
  have ho := rdC_one l
  obtain ⟨cs, hcs⟩ : ∃ cs, rdC l = cs := ⟨_, rfl⟩
  obtain ⟨k, hk⟩ : ∃ k, rdE l = k := ⟨_, rfl⟩
  rw [hcs] at hrd1 hrd2 hf hl ho
  rw [hk] at hrd1 hrd2
  refine enter (n := 62) (R := fun e L => e = .returned (.bool true)) [.agg h.toArray, .slice B m c] Try.func3 rfl rfl rfl (St.refl w) ?_ (fun e w' L' h H => ⟨h, H.kept⟩)
  refine VC_seq ?_
  refine VC_region ?_
  refine l_boxA rfl rfl ?_
  intro b2
  refine vl_v (q_assign rfl) rfl ?_
  refine vl_nil ?_
  refine (th_n ?_)
  refine VC_seq ?_
  refine VC_region ?_
  refine vl_v (q_callV Try.func8 rfl rfl rfl (fun w1 H1 => awake12_calls w1)) rfl ?_
  refine vl_v (q_assign rfl) rfl ?_
  refine vl_nil ?_
  refine (th_n ?_)
  refine VC_seq ?_
  refine VC_seq ?_
  refine VC_region ?_
  refine vl_v (q_move rfl) rfl ?_
  refine vl_v (q_lenS Try.underlying26 rfl) rfl ?_
  first | (refine vl_v (q_gtr_n (q := 1000) Try.underlying3 rfl rfl) rfl ?_) | (refine vl_v (q_gtr_k Try.underlying3 rfl rfl) rfl ?_)
  refine vl_nil ?_
  refine (th_n ?_)
  refine VC_cond rfl (fun ht17 => ?_) (fun ht17 => ?_)
  · skip
    exfalso; have ht17 := of_decide_eq_true ht17; omega
  · skip
    have ht17 := of_decide_eq_false ht17
    refine VC_skip ?_
    refine (th_n ?_)
    refine VC_seq ?_
    refine VC_region ?_
    refine vl_v (q_loads 0 Try.underlying25 rfl rfl rfl sz25 hl1) rfl ?_
    refine l_callT Try.func9 rfl rfl rfl (fun w1 H1 => hb1 w1) rfl ?_
    intro A21 c21 hc21 hm21
    refine vl_v (q_move rfl) rfl ?_
    refine vl_v (q_ext rfl rfl) rfl ?_
    refine vl_v (q_ext rfl rfl) rfl ?_
    refine vl_v (q_assign rfl) rfl ?_
    refine vl_v (q_assign rfl) rfl ?_
    refine vl_nil ?_
    refine (th_n ?_)
    refine VC_seq ?_
    refine VC_region ?_
    refine vl_v (q_loads 1 Try.underlying25 rfl rfl rfl sz25 hl1) rfl ?_
    refine l_callT Try.func10 rfl rfl rfl (fun w1 H1 => hb2 w1) rfl ?_
    intro A26 c26 hc26 hm26
    refine vl_v (q_move rfl) rfl ?_
    refine vl_v (q_ext rfl rfl) rfl ?_
    refine vl_v (q_ext rfl rfl) rfl ?_
    refine vl_v (q_assign rfl) rfl ?_
    refine vl_v (q_assign rfl) rfl ?_
    refine vl_nil ?_
    refine (th_n ?_)
    refine VC_seq ?_
    refine VC_region ?_
    refine vl_v (q_move rfl) rfl ?_
    refine vl_v (q_callV Try.func11 rfl rfl rfl (fun w1 H1 => hrd1 w1 (Reads.old hB w1 H1))) rfl ?_
    refine vl_v (q_move rfl) rfl ?_
    refine vl_v (q_ext rfl rfl) rfl ?_
    refine vl_v (q_ext rfl rfl) rfl ?_
    refine l_allocA zr25 rfl ?_
    intro b10
    refine l_storeA 0 rfl rfl rfl sz25 (by first | assumption | omega | (rw [zHeadC_eq]; exact zHeadC_length) | (simp only [bys_length]; omega)) (by first | (with_reducible first | exact bys_one _ | exact u32s_one _ | exact u64s_one _ | exact i64s_one _ | exact n64s_one _ | assumption) | exact bys_one _ | exact u32s_one _ | exact u64s_one _ | exact i64s_one _ | exact one_all rfl | (refine app_one ?_ ?_ <;> first | exact bys_one _ | exact one_all rfl | (simp; done))) (by first | assumption | omega | (rw [zHeadC_eq]; exact zHeadC_length) | (simp only [bys_length]; omega)) ?_
    simp only [List.set_cons_zero, List.set_cons_succ]
    refine vl_v (q_assign rfl) rfl ?_
    refine vl_nil ?_
    refine (th_n ?_)
    refine VC_seq ?_
    refine VC_region ?_
    refine vl_v (q_move rfl) rfl ?_
    refine vl_v (q_callV Try.func12 rfl rfl rfl (fun w1 H1 => hrd2 w1 (Reads.old hB w1 H1))) rfl ?_
    refine vl_v (q_move rfl) rfl ?_
    refine vl_v (q_ext rfl rfl) rfl ?_
    refine vl_v (q_ext rfl rfl) rfl ?_
    refine l_allocA zr25 rfl ?_
    intro b12
    refine l_storeA 0 rfl rfl rfl sz25 (by first | assumption | omega | (rw [zHeadC_eq]; exact zHeadC_length) | (simp only [bys_length]; omega)) (by first | (with_reducible first | exact bys_one _ | exact u32s_one _ | exact u64s_one _ | exact i64s_one _ | exact n64s_one _ | assumption) | exact bys_one _ | exact u32s_one _ | exact u64s_one _ | exact i64s_one _ | exact one_all rfl | (refine app_one ?_ ?_ <;> first | exact bys_one _ | exact one_all rfl | (simp; done))) (by first | assumption | omega | (rw [zHeadC_eq]; exact zHeadC_length) | (simp only [bys_length]; omega)) ?_
    simp only [List.set_cons_zero, List.set_cons_succ]
    refine vl_v (q_assign rfl) rfl ?_
    refine vl_nil ?_
    refine (th_n ?_)
    refine VC_seq ?_
    refine VC_region ?_
    refine vl_v (q_move rfl) rfl ?_
    refine vl_v (q_move rfl) rfl ?_
    refine vl_vg rfl (q_move rfl) rfl ?_
    refine vl_vg rfl (q_str Try.underlying26 Try.underlying5 Try.underlying9 rfl (Reads.row 3 rfl) (by first | assumption | omega | (rw [zHeadC_eq]; exact zHeadC_length) | (simp only [bys_length]; omega))) rfl ?_
    refine vl_vg rfl (q_move rfl) rfl ?_
    refine vl_vg rfl (q_str Try.underlying26 Try.underlying5 Try.underlying9 rfl (Reads.row 2 rfl) (by first | assumption | omega | (rw [zHeadC_eq]; exact zHeadC_length) | (simp only [bys_length]; omega))) rfl ?_
    refine vl_vg rfl (q_true (q_eqStr Try.underlying9 rfl rfl) (decide_eq_true rfl)) rfl ?_
    first | (refine vl_v (q_pickT rfl rfl) rfl ?_) | (refine vl_v (q_pickF rfl rfl) rfl ?_)
    refine vl_v (q_move rfl) rfl ?_
    refine vl_vg rfl (q_move rfl) rfl ?_
    refine vl_vg rfl (q_move rfl) rfl ?_
    refine vl_vg rfl (q_true (q_eql_n Try.underlying28 rfl rfl) (decide_eq_true rfl)) rfl ?_
    first | (refine vl_v (q_pickT rfl rfl) rfl ?_) | (refine vl_v (q_pickF rfl rfl) rfl ?_)
    refine vl_v (q_move rfl) rfl ?_
    first | (refine vl_vg rfl (q_loads 1 Try.underlying25 rfl rfl rfl sz25 (by first | assumption | omega | (rw [zHeadC_eq]; exact zHeadC_length) | (simp only [bys_length]; omega))) rfl ?_) | (refine vl_vg rfl (q_loadsAt 1 Try.underlying25 rfl rfl rfl sz25 (by rfl) (by first | assumption | omega | (rw [zHeadC_eq]; exact zHeadC_length) | (simp only [bys_length]; omega))) rfl ?_)
    first | (refine vl_vg rfl (q_loads 0 Try.underlying25 rfl rfl rfl sz25 (by first | assumption | omega | (rw [zHeadC_eq]; exact zHeadC_length) | (simp only [bys_length]; omega))) rfl ?_) | (refine vl_vg rfl (q_loadsAt 0 Try.underlying25 rfl rfl rfl sz25 (by rfl) (by first | assumption | omega | (rw [zHeadC_eq]; exact zHeadC_length) | (simp only [bys_length]; omega))) rfl ?_)
    refine vl_vg rfl (q_eqT flatHead rfl rfl hf rfl) rfl ?_
    first | (refine vl_v (q_pickT rfl rfl) rfl ?_) | (refine vl_v (q_pickF rfl rfl) rfl ?_)
    refine vl_v (q_move rfl) rfl ?_
    refine vl_vg rfl (q_move rfl) rfl ?_
    refine vl_vg rfl (q_move rfl) rfl ?_
    refine vl_vg rfl (q_true (q_eql_n Try.underlying28 rfl rfl) (decide_eq_true rfl)) rfl ?_
    first | (refine vl_v (q_pickT rfl rfl) rfl ?_) | (refine vl_v (q_pickF rfl rfl) rfl ?_)
    refine vl_v (q_assign rfl) rfl ?_
    refine vl_nil ?_
    refine (th_n ?_)
    refine VC_ret ?_
    refine ⟨_, res1 rfl rfl, ?_⟩
    exact rfl
set_option maxHeartbeats 2000000 in
theorem reads_wrong (pub : List UInt8) (p q : Int) (l : List UInt8) (w : World) (B : Option Addr) (m c : Nat) (hp : pub.length = 32) (hm : m = l.length) (hc : m ≤ c) (hm2 : m ≤ 1000) (hB : SlAt w B (bys l)) (hr : rightB p q = false) : law12r pub p q l w B m c := by
  have hb1 := fun w => hbytes_bad pub p q hp hr w
  have hb2 := fun w => rbytes_bad pub p q hp hr w
  have hl1 := headC_length hp p q
  obtain ⟨h, hh⟩ : ∃ h, headC pub p q = h := ⟨_, rfl⟩
  unfold law12r
  rw [hh] at hl1 hb1 hb2 ⊢
  have hrd1 := fun w1 hs => read_calls l B m c hm hc w1 hs
  have hrd2 := fun w1 hs => rread_calls l B m c hm hc (by omega) w1 hs
  have hf := rdC_fits l
  have hl := rdC_length l
  have ho := rdC_one l
  obtain ⟨cs, hcs⟩ : ∃ cs, rdC l = cs := ⟨_, rfl⟩
  obtain ⟨k, hk⟩ : ∃ k, rdE l = k := ⟨_, rfl⟩
  rw [hcs] at hrd1 hrd2 hf hl ho
  rw [hk] at hrd1 hrd2
  refine enter (n := 62) (R := fun e L => e = .returned (.bool true)) [.agg h.toArray, .slice B m c] Try.func3 rfl rfl rfl (St.refl w) ?_ (fun e w' L' h H => ⟨h, H.kept⟩)
  refine VC_seq ?_
  refine VC_region ?_
  refine l_boxA rfl rfl ?_
  intro b2
  refine vl_v (q_assign rfl) rfl ?_
  refine vl_nil ?_
  refine (th_n ?_)
  refine VC_seq ?_
  refine VC_region ?_
  refine vl_v (q_callV Try.func8 rfl rfl rfl (fun w1 H1 => awake12_calls w1)) rfl ?_
  refine vl_v (q_assign rfl) rfl ?_
  refine vl_nil ?_
  refine (th_n ?_)
  refine VC_seq ?_
  refine VC_seq ?_
  refine VC_region ?_
  refine vl_v (q_move rfl) rfl ?_
  refine vl_v (q_lenS Try.underlying26 rfl) rfl ?_
  first | (refine vl_v (q_gtr_n (q := 1000) Try.underlying3 rfl rfl) rfl ?_) | (refine vl_v (q_gtr_k Try.underlying3 rfl rfl) rfl ?_)
  refine vl_nil ?_
  refine (th_n ?_)
  refine VC_cond rfl (fun ht17 => ?_) (fun ht17 => ?_)
  · skip
    exfalso; have ht17 := of_decide_eq_true ht17; omega
  · skip
    have ht17 := of_decide_eq_false ht17
    refine VC_skip ?_
    refine (th_n ?_)
    refine VC_seq ?_
    refine VC_region ?_
    refine vl_v (q_loads 0 Try.underlying25 rfl rfl rfl sz25 hl1) rfl ?_
    refine vl_v (q_callV Try.func9 rfl rfl rfl (fun w1 H1 => hb1 w1)) rfl ?_
    refine vl_v (q_move rfl) rfl ?_
    refine vl_v (q_ext rfl rfl) rfl ?_
    refine vl_v (q_ext rfl rfl) rfl ?_
    refine vl_v (q_assign rfl) rfl ?_
    refine vl_v (q_assign rfl) rfl ?_
    refine vl_nil ?_
    refine (th_n ?_)
    refine VC_seq ?_
    refine VC_region ?_
    refine vl_v (q_loads 0 Try.underlying25 rfl rfl rfl sz25 hl1) rfl ?_
    refine vl_v (q_callV Try.func10 rfl rfl rfl (fun w1 H1 => hb2 w1)) rfl ?_
    refine vl_v (q_move rfl) rfl ?_
    refine vl_v (q_ext rfl rfl) rfl ?_
    refine vl_v (q_ext rfl rfl) rfl ?_
    refine vl_v (q_assign rfl) rfl ?_
    refine vl_v (q_assign rfl) rfl ?_
    refine vl_nil ?_
    refine (th_n ?_)
    refine VC_seq ?_
    refine VC_region ?_
    refine vl_v (q_move rfl) rfl ?_
    refine vl_v (q_callV Try.func11 rfl rfl rfl (fun w1 H1 => hrd1 w1 (Reads.old hB w1 H1))) rfl ?_
    refine vl_v (q_move rfl) rfl ?_
    refine vl_v (q_ext rfl rfl) rfl ?_
    refine vl_v (q_ext rfl rfl) rfl ?_
    refine l_allocA zr25 rfl ?_
    intro b10
    refine l_storeA 0 rfl rfl rfl sz25 (by first | assumption | omega | (rw [zHeadC_eq]; exact zHeadC_length) | (simp only [bys_length]; omega)) (by first | (with_reducible first | exact bys_one _ | exact u32s_one _ | exact u64s_one _ | exact i64s_one _ | exact n64s_one _ | assumption) | exact bys_one _ | exact u32s_one _ | exact u64s_one _ | exact i64s_one _ | exact one_all rfl | (refine app_one ?_ ?_ <;> first | exact bys_one _ | exact one_all rfl | (simp; done))) (by first | assumption | omega | (rw [zHeadC_eq]; exact zHeadC_length) | (simp only [bys_length]; omega)) ?_
    simp only [List.set_cons_zero, List.set_cons_succ]
    refine vl_v (q_assign rfl) rfl ?_
    refine vl_nil ?_
    refine (th_n ?_)
    refine VC_seq ?_
    refine VC_region ?_
    refine vl_v (q_move rfl) rfl ?_
    refine vl_v (q_callV Try.func12 rfl rfl rfl (fun w1 H1 => hrd2 w1 (Reads.old hB w1 H1))) rfl ?_
    refine vl_v (q_move rfl) rfl ?_
    refine vl_v (q_ext rfl rfl) rfl ?_
    refine vl_v (q_ext rfl rfl) rfl ?_
    refine l_allocA zr25 rfl ?_
    intro b12
    refine l_storeA 0 rfl rfl rfl sz25 (by first | assumption | omega | (rw [zHeadC_eq]; exact zHeadC_length) | (simp only [bys_length]; omega)) (by first | (with_reducible first | exact bys_one _ | exact u32s_one _ | exact u64s_one _ | exact i64s_one _ | exact n64s_one _ | assumption) | exact bys_one _ | exact u32s_one _ | exact u64s_one _ | exact i64s_one _ | exact one_all rfl | (refine app_one ?_ ?_ <;> first | exact bys_one _ | exact one_all rfl | (simp; done))) (by first | assumption | omega | (rw [zHeadC_eq]; exact zHeadC_length) | (simp only [bys_length]; omega)) ?_
    simp only [List.set_cons_zero, List.set_cons_succ]
    refine vl_v (q_assign rfl) rfl ?_
    refine vl_nil ?_
    refine (th_n ?_)
    refine VC_seq ?_
    refine VC_region ?_
    refine vl_v (q_move rfl) rfl ?_
    refine vl_v (q_move rfl) rfl ?_
    refine vl_vg rfl (q_move rfl) rfl ?_
    refine vl_vg rfl (q_str (l := []) Try.underlying26 Try.underlying5 Try.underlying9 rfl Reads.nil rfl) rfl ?_
    refine vl_vg rfl (q_move rfl) rfl ?_
    refine vl_vg rfl (q_str (l := []) Try.underlying26 Try.underlying5 Try.underlying9 rfl Reads.nil rfl) rfl ?_
    refine vl_vg rfl (q_true (q_eqStr Try.underlying9 rfl rfl) (decide_eq_true rfl)) rfl ?_
    first | (refine vl_v (q_pickT rfl rfl) rfl ?_) | (refine vl_v (q_pickF rfl rfl) rfl ?_)
    refine vl_v (q_move rfl) rfl ?_
    refine vl_vg rfl (q_move rfl) rfl ?_
    refine vl_vg rfl (q_move rfl) rfl ?_
    refine vl_vg rfl (q_true (q_eql_n Try.underlying28 rfl rfl) (decide_eq_true rfl)) rfl ?_
    first | (refine vl_v (q_pickT rfl rfl) rfl ?_) | (refine vl_v (q_pickF rfl rfl) rfl ?_)
    refine vl_v (q_move rfl) rfl ?_
    first | (refine vl_vg rfl (q_loads 1 Try.underlying25 rfl rfl rfl sz25 (by first | assumption | omega | (rw [zHeadC_eq]; exact zHeadC_length) | (simp only [bys_length]; omega))) rfl ?_) | (refine vl_vg rfl (q_loadsAt 1 Try.underlying25 rfl rfl rfl sz25 (by rfl) (by first | assumption | omega | (rw [zHeadC_eq]; exact zHeadC_length) | (simp only [bys_length]; omega))) rfl ?_)
    first | (refine vl_vg rfl (q_loads 0 Try.underlying25 rfl rfl rfl sz25 (by first | assumption | omega | (rw [zHeadC_eq]; exact zHeadC_length) | (simp only [bys_length]; omega))) rfl ?_) | (refine vl_vg rfl (q_loadsAt 0 Try.underlying25 rfl rfl rfl sz25 (by rfl) (by first | assumption | omega | (rw [zHeadC_eq]; exact zHeadC_length) | (simp only [bys_length]; omega))) rfl ?_)
    refine vl_vg rfl (q_eqT flatHead rfl rfl hf rfl) rfl ?_
    first | (refine vl_v (q_pickT rfl rfl) rfl ?_) | (refine vl_v (q_pickF rfl rfl) rfl ?_)
    refine vl_v (q_move rfl) rfl ?_
    refine vl_vg rfl (q_move rfl) rfl ?_
    refine vl_vg rfl (q_move rfl) rfl ?_
    refine vl_vg rfl (q_true (q_eql_n Try.underlying28 rfl rfl) (decide_eq_true rfl)) rfl ?_
    first | (refine vl_v (q_pickT rfl rfl) rfl ?_) | (refine vl_v (q_pickF rfl rfl) rfl ?_)
    refine vl_v (q_assign rfl) rfl ?_
    refine vl_nil ?_
    refine (th_n ?_)
    refine VC_ret ?_
    refine ⟨_, res1 rfl rfl, ?_⟩
    exact rfl
theorem headReads.walk (w : World) (v0 : Value) (x : List UInt8 × Int × Int) (h0 : HeadV v0 x) (v1 : Value) (l : List UInt8) (h1 : BsArg w v1 l) :
    Calls Try.prog 3 #[v0, v1] w fun e w' => e = .returned (.bool true) ∧ Kept [] w w' := by
  obtain ⟨rfl, hp⟩ := h0
  obtain ⟨B, c, rfl, hc, _, hB⟩ := h1
  by_cases hm : 1000 < l.length
  · exact reads_long x.1 x.2.1 x.2.2 l w B _ c hp hm
  cases hr : rightB x.2.1 x.2.2 with
  | true =>
    obtain ⟨a, b, e1, e2, _, _⟩ := rightB_nat hr
    rw [e1, e2] at hr ⊢
    exact reads_right x.1 a b l w B _ c hp rfl hc (by omega) hB hr
  | false => exact reads_wrong x.1 x.2.1 x.2.2 l w B _ c hp rfl hc (by omega) hB hr

namespace headReads
open Go.ChangeShapes Go.WideShapes Go.ChangeAt Go.RowKit
theorem own : ownKnob Try.prog.godebug = none := by kernel_rfl
theorem laidOut : laidOutB Try.prog = true := by kernel_rfl
set_option maxRecDepth 100000 in
theorem lifted (os : Os) (started : os.Started) (H : Type) (enc : TypeId × Value → H) :
    ReturnsInHanded {} Try.checked os 3 .any (Rows.headReadsSpec.pre6 enc Try.prog Try.f3 Rows.headReadsRow.domain false) (Rows.headReadsSpec.post enc Try.prog Try.f3 false true false false) := by
  refine returnsInHanded_of_change (C := Try.checked) own started (by kernel_rfl) Try.func3
    (ChangeSpec.witness6 (enc := enc) (C := Try.checked) false ⟨#[], #[(.agg (List.replicate 32 (Value.int .u8 0) ++ [Value.int .i64 0, Value.int .i64 0]).toArray), .slice none 0 0], []⟩ 8 (by kernel_rfl) (by kernel_rfl) (by kernel_rfl) (by kernel_rfl)) ?_
  intro W base args ds gs before hval0 hW hcnd _
  have hval : ∀ (j : Nat) t v, Try.f3.params[j]? = some t → args[j]? = some v → Value.okWide Try.prog W .any base t v := hval0
  have hW' := hW
  obtain ⟨p, q, hA0, hV, rfl, hfz, hnd⟩ := hW
  have hA : DataW.TrodAll enc Try.prog W 0 (fun _ => true) true Try.f3.params.toList args.toList ds p := hA0
  rw [Try.params3] at hA hval
  obtain ⟨v0, vs0, d0, ds0, p0, q0, hargs, rfl, rfl, h0, r0⟩ := trodAll_cons hA
  obtain ⟨v1, vs1, d1, ds1, p1, q1, rfl, rfl, rfl, h1, r1⟩ := trodAll_cons r0
  obtain ⟨rfl, rfl, rfl⟩ := trodAll_nil r1
  obtain rfl : args = #[v0, v1] := by cases args; simp_all
  obtain ⟨rfl, rfl⟩ := trodVars_none hV
  have k0 := h0
  have lt0 : ∀ x ∈ p0, x.block < W.heap.size := by obtain ⟨m, hm⟩ := k0; exact DataW.trod_lt m _ _ _ hm
  have k1 := h1
  have lt1 : ∀ x ∈ p1, x.block < W.heap.size := by obtain ⟨m, hm⟩ := k1; exact DataW.trod_lt m _ _ _ hm
  obtain ⟨cs0, e0, f0⟩ := open_flat (ks := (List.replicate 32 .u8 ++ [.i64, .i64])) 6 (by kernel_rfl) (by kernel_rfl) (hval 0 25 v0 rfl rfl) h0
  subst e0
  obtain ⟨l0, g0⟩ := open_head f0
  obtain ⟨l1, g1⟩ := open_bytes Try.underlying26 Try.underlying5 (by kernel_rfl) (hval 1 26 v1 rfl rfl) h1
  clear hA0 hval0
  refine (headReads.walk W _ l0 g0 v1 l1 g1).mono fun e W' ⟨he, hK⟩ => ?_
  subst he
  have bel := hK.below
  exact ⟨_, rfl, _, _, _, [], _, [], hW', trodAll_mk1 (shut_bool Try.underlying4 _), (trodAll_cons_mk (Below.trod laidOut (by kernel_rfl) (of_decide_eq_true (by kernel_rfl)) k0 bel lt0) (trodAll_cons_mk (Below.trod laidOut (by kernel_rfl) (of_decide_eq_true (by kernel_rfl)) k1 bel lt1) trodAll_mk0)), rfl, bel.frame _, fun h => by cases h⟩
theorem over : Rows.headReadsRow.holds Try.pinned (OpenSpec.ofChange Rows.headReadsSpec) :=
  OpenClaim.holds_of_wide 3 Try.f3 rfl rfl rfl rfl rfl rfl rfl ⟨rfl, rfl, rfl, rfl, rfl⟩ rfl rfl rfl rfl rfl (by kernel_rfl) Try.func3 (by kernel_rfl)
    (of_decide_eq_true (by kernel_rfl)) (by unfold Func.isWrapper; first | (rw [if_pos (by decide +kernel)]; kernel_rfl) | (rw [if_neg (by decide +kernel)]; exact ⟨rfl, rfl⟩))
    (fun os started H enc _ => lifted os started H enc)
theorem proved : Rows.HeadReadsSaid := over
end headReads
/-- The row. -/
theorem headReads_holds : Rows.HeadReadsSaid := headReads.proved
#print axioms headReads_holds
end Go.Proofs.Ytpjjledbmfmbiaa
