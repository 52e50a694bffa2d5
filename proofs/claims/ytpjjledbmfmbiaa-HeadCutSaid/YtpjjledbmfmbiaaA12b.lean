/- Chapter 12: a head and an envelope come. No condition. -/
import Derived.Test.YtpjjledbmfmbiaaA12
namespace Go.Proofs.Ytpjjledbmfmbiaa
open Go.RowKit Go.PBYtpjjledbmfmbiaa
set_option linter.unusedVariables false
set_option linter.unusedSimpArgs false
set_option maxRecDepth 100000

theorem wf_small (x : Nat) (h : x < 4294967296) : (Lit.int .i64 (x : Int)).wf = true := by
  simp only [Lit.wf, Bool.and_eq_true, decide_eq_true_eq]
  have h2 : IntKind.i64.min = -9223372036854775808 := rfl
  have h3 : IntKind.i64.max = 9223372036854775807 := rfl
  rw [h2, h3]
  omega
theorem headC_fits {pub : List UInt8} (hp : pub.length = 32) {p q : Int} (h1 : (Lit.int .i64 p).wf = true) (h2 : (Lit.int .i64 q).wf = true) : Fits (headC pub p q) (List.replicate 32 .u8 ++ [.i64, .i64]) :=
  (fits_bys' hp).append ((fits_int h1).append (fits_int h2))
theorem rdC_fits (l : List UInt8) : Fits (rdC l) (List.replicate 32 .u8 ++ [.i64, .i64]) := by
  have hz : Fits zHeadC (List.replicate 32 .u8 ++ [.i64, .i64]) := headC_fits (by simp) (by decide) (by decide)
  unfold rdC
  split
  · exact hz
  · split
    · exact headC_fits (by rw [rdP]; simp; omega) (wf_small _ (rdM_lt l)) (wf_small _ (rdN_lt l))
    · exact hz
theorem rdC_length (l : List UInt8) : (rdC l).length = 34 := by
  unfold rdC
  split
  · exact zHeadC_length
  · split
    · exact headC_length (by rw [rdP]; simp; omega) _ _
    · exact zHeadC_length
theorem rdC_one (l : List UInt8) : ∀ u ∈ rdC l, u.oneCell' = true := by
  unfold rdC
  split
  · exact zHeadC_one
  · split
    · exact app_one (bys_one _) (one_all rfl)
    · exact zHeadC_one
def z32 : List UInt8 := List.replicate 32 0
theorem z32_length : z32.length = 32 := by simp [z32]
set_option maxHeartbeats 2000000 in
theorem awake12_calls (w : World) : Calls Try.prog 8 #[] w fun e w' => e = .returned (.bool true) ∧ Kept [] w w' := by
  have hz := z32_length
  have hr : rightB ((0 : Nat) : Int) ((5 : Nat) : Int) = true := by decide
  obtain ⟨u, hu⟩ : ∃ u, headB z32 0 5 = u := ⟨_, rfl⟩
  have lu : u.length = 40 := by rw [← hu]; exact headB_length hz 0 5
  have hc : rdC u = headC z32 0 5 := by rw [← hu]; exact rdC_headB hz hr
  have he : rdE u = 0 := by rw [← hu]; exact rdE_headB hz hr
  have hb := fun w => hbytes_ok z32 0 5 hz (by omega) (by omega) w
  rw [hu] at hb
  have hl34 : (headC z32 0 5).length = 34 := headC_length hz _ _
  have ho34 : ∀ u ∈ headC z32 0 5, u.oneCell' = true := app_one (bys_one _) (one_all rfl)
  have h33 := headC_at33 hz 0 5
  have hre : rightEB ((0 : Nat) : Int) ((1 : Nat) : Int) ((0 : Nat) : Int) ((0 : Nat) : Int) 2 = true := by decide
  refine enter (n := 49) (R := fun e L => e = .returned (.bool true)) [] Try.func8 rfl rfl rfl (St.refl w) ?_ (fun e w' L' h H => ⟨h, H.kept⟩)
  refine VC_seq ?_
  refine VC_region ?_
  refine vl_v (q_assign rfl) rfl ?_
  refine vl_nil ?_
  refine (th_n ?_)
  refine VC_seq ?_
  refine VC_region ?_
  refine vl_v (q_build (c' := headC z32 0 5) rfl (by kernel_rfl)) rfl ?_
  refine l_callT Try.func9 rfl rfl rfl (fun w1 H1 => hb w1) rfl ?_
  intro A9 c9 hc9 hm9
  refine vl_v (q_move rfl) rfl ?_
  refine vl_v (q_ext rfl rfl) rfl ?_
  refine vl_v (q_ext rfl rfl) rfl ?_
  refine vl_v (q_assign rfl) rfl ?_
  refine vl_v (q_assign rfl) rfl ?_
  refine vl_nil ?_
  refine (th_n ?_)
  refine VC_seq ?_
  refine VC_region ?_
  refine vl_v (q_move rfl) rfl ?_
  refine vl_v (q_callV Try.func11 rfl rfl rfl (fun w1 H1 => hc ▸ he ▸ read_calls u _ 40 _ lu.symm (by omega) w1 (Reads.row 0 rfl w1 H1))) rfl ?_
  refine vl_v (q_move rfl) rfl ?_
  refine vl_v (q_ext rfl rfl) rfl ?_
  refine vl_v (q_ext rfl rfl) rfl ?_
  refine l_allocA zr25 rfl ?_
  intro b3
  refine l_storeA 0 rfl rfl rfl sz25 (by first | assumption | omega) (by first | (with_reducible first | exact bys_one _ | exact u32s_one _ | exact u64s_one _ | exact i64s_one _ | exact n64s_one _ | assumption) | exact bys_one _ | exact u32s_one _ | exact u64s_one _ | exact i64s_one _ | exact one_all rfl | (refine app_one ?_ ?_ <;> first | exact bys_one _ | exact one_all rfl | (simp; done))) (by first | assumption | omega) ?_
  simp only [List.set_cons_zero, List.set_cons_succ]
  refine vl_v (q_assign rfl) rfl ?_
  refine vl_nil ?_
  refine (th_n ?_)
  refine VC_seq ?_
  refine VC_region ?_
  refine l_litA (cs := bys [UInt8.ofNat 97, UInt8.ofNat 98]) Try.underlying26 in5 (by decide) rfl rfl rfl rfl (by first | (with_reducible first | exact bys_one _ | exact u32s_one _ | exact u64s_one _ | exact i64s_one _ | exact n64s_one _ | assumption) | exact bys_one _ | exact u32s_one _ | exact u64s_one _ | exact i64s_one _ | exact one_all rfl | (refine app_one ?_ ?_ <;> first | exact bys_one _ | exact one_all rfl | (simp; done))) rfl rfl ?_
  intro b18
  refine l_convS 0 Try.underlying26 Try.underlying5 rfl rfl rfl ?_
  refine vl_v (q_build (c' := envC 0 1 z32 z32 0 0 (.slice (some ⟨b18, 0, none⟩) 2 2)) rfl (by kernel_rfl)) rfl ?_
  refine l_callT Try.func13 rfl rfl rfl (fun w1 H1 => henv_ok 0 1 z32 z32 0 0 [97, 98] 2 2 _ rfl hz hz hre w1 (Reads.row 0 rfl w1 H1)) rfl ?_
  intro A21 c21 hc21 hm21
  refine vl_v (q_move rfl) rfl ?_
  refine vl_v (q_ext rfl rfl) rfl ?_
  refine vl_v (q_ext rfl rfl) rfl ?_
  refine vl_v (q_assign rfl) rfl ?_
  refine vl_v (q_assign rfl) rfl ?_
  refine vl_nil ?_
  refine (th_n ?_)
  refine VC_seq ?_
  refine VC_region ?_
  refine vl_v (q_move rfl) rfl ?_
  refine vl_v (q_true (q_eql_n (q := 0) Try.underlying28 rfl rfl) (decide_eq_true rfl)) rfl ?_
  refine vl_v (q_move rfl) rfl ?_
  refine vl_vg rfl (q_move rfl) rfl ?_
  refine vl_vg rfl (q_lenS Try.underlying26 rfl) rfl ?_
  refine vl_vg rfl (q_true (q_eql_n (q := 40) Try.underlying3 rfl rfl) (decide_eq_true rfl)) rfl ?_
  first | (refine vl_v (q_pickT rfl rfl) rfl ?_) | (refine vl_v (q_pickF rfl rfl) rfl ?_)
  refine vl_v (q_move rfl) rfl ?_
  refine vl_vg rfl (q_move rfl) rfl ?_
  refine vl_vg rfl (q_true (q_eql_n (q := 0) Try.underlying28 rfl rfl) (decide_eq_true rfl)) rfl ?_
  first | (refine vl_v (q_pickT rfl rfl) rfl ?_) | (refine vl_v (q_pickF rfl rfl) rfl ?_)
  refine vl_v (q_move rfl) rfl ?_
  refine vl_vg rfl (q_fldA fo25_2 (by decide) rfl rfl) rfl ?_
  refine vl_vg rfl (q_load 2 Try.underlying3 rfl rfl rfl h33) rfl ?_
  refine vl_vg rfl (q_true (q_eql_n (q := 5) Try.underlying3 rfl rfl) (decide_eq_true rfl)) rfl ?_
  first | (refine vl_v (q_pickT rfl rfl) rfl ?_) | (refine vl_v (q_pickF rfl rfl) rfl ?_)
  refine vl_v (q_move rfl) rfl ?_
  refine vl_vg rfl (q_move rfl) rfl ?_
  refine vl_vg rfl (q_true (q_eql_n (q := 0) Try.underlying28 rfl rfl) (decide_eq_true rfl)) rfl ?_
  first | (refine vl_v (q_pickT rfl rfl) rfl ?_) | (refine vl_v (q_pickF rfl rfl) rfl ?_)
  refine vl_v (q_move rfl) rfl ?_
  refine vl_vg rfl (q_move rfl) rfl ?_
  refine vl_vg rfl (q_lenS Try.underlying26 rfl) rfl ?_
  refine vl_vg rfl (q_true (q_eql_n (q := 78) Try.underlying3 rfl rfl) (decide_eq_true rfl)) rfl ?_
  first | (refine vl_v (q_pickT rfl rfl) rfl ?_) | (refine vl_v (q_pickF rfl rfl) rfl ?_)
  refine vl_v (q_assign rfl) rfl ?_
  refine vl_nil ?_
  refine (th_n ?_)
  refine VC_ret ?_
  refine ⟨_, res1 rfl rfl, ?_⟩
  exact rfl
end Go.Proofs.Ytpjjledbmfmbiaa
