/- Chapter 4: jobs, as arguments. No condition. -/
import Derived.Test.YtjlhehdkopponaaA04
namespace Go.Proofs.Ytjlhehdkopponaa
open Go.RowKit Go.PBYtjlhehdkopponaa
set_option linter.unusedVariables false

abbrev Job := List UInt8 × List UInt8 × UInt32
def jobC (j : Job) : List Value := bys j.1 ++ (bys j.2.1 ++ [vU32 j.2.2])
def JobV (v : Value) (j : Job) : Prop := v = .agg (jobC j).toArray ∧ j.1.length = 32 ∧ j.2.1.length = 12
def jobK : List IntKind := List.replicate 32 .u8 ++ (List.replicate 12 .u8 ++ [.u32])
theorem open_job {cs : List Value} (h : Fits cs jobK) : ∃ j, JobV (.agg cs.toArray) j := by
  obtain ⟨a, b, rfl, ha, hb⟩ := h.split
  obtain ⟨c, d, rfl, hc, hd⟩ := hb.split
  obtain ⟨k, hk, rfl⟩ := ha.bytes
  obtain ⟨nn, hn, rfl⟩ := hc.bytes
  obtain ⟨x, rfl, hx⟩ := hd.one
  obtain ⟨y, hy⟩ := wf_u32 hx
  exact ⟨(k, nn, y), by rw [hy]; rfl, hk, hn⟩
theorem jobC_length {j : Job} (h1 : j.1.length = 32) (h2 : j.2.1.length = 12) : (jobC j).length = 45 := by simp [jobC, bys_length, h1, h2]
theorem job0 {j : Job} (h1 : j.1.length = 32) : ((jobC j).drop 0).take 32 = bys j.1 := by
  rw [List.drop_zero, jobC, List.take_left' (by rw [bys_length, h1])]
theorem job1 {j : Job} (h1 : j.1.length = 32) (h2 : j.2.1.length = 12) : ((jobC j).drop 32).take 12 = bys j.2.1 := by
  rw [jobC, List.drop_left' (by rw [bys_length, h1]), List.take_left' (by rw [bys_length, h2])]
theorem job2 {j : Job} (h1 : j.1.length = 32) (h2 : j.2.1.length = 12) : (jobC j)[44]? = some (vU32 j.2.2) := by
  rw [jobC, List.getElem?_append_right (by rw [bys_length]; omega), List.getElem?_append_right (by rw [bys_length, bys_length]; omega), bys_length, bys_length, h1, h2]
  rfl
theorem laid04 : laidOutB Try.prog = true := by kernel_rfl
theorem flat64 : Flat Try.prog 29 (List.replicate 64 .u8) :=
  flat_of (m := 3) laid04 (by omega) (of_decide_eq_true (by kernel_rfl)) (by kernel_rfl) (by kernel_rfl) (by kernel_rfl) (by kernel_rfl) (by kernel_rfl) (by kernel_rfl)
end Go.Proofs.Ytjlhehdkopponaa
