/- The words of chapter 12, third part: what was written is read; what is read has just these bytes. No condition. -/
import Derived.Test.YtpjjledbmfmbiaaS12b
import Derived.Test.YtpjjledbmfmbiaaP01
namespace Go.PBYtpjjledbmfmbiaa
open Go Go.RowKit
set_option linter.unusedVariables false
set_option linter.unusedSimpArgs false

theorem rdP_headB {pub : List UInt8} (h : pub.length = 32) (x y : Nat) : rdP (headB pub x y) = pub := by
  unfold rdP headB
  rw [List.append_assoc, List.take_left' h]
theorem rdM_headB {pub : List UInt8} (h : pub.length = 32) {x y : Nat} (hx : x < 4294967296) : rdM (headB pub x y) = x := by
  unfold rdM headB
  rw [List.append_assoc, List.drop_left' h, List.take_left' (highB_length x 4), ofHigh_highB]
  omega
theorem rdN_headB {pub : List UInt8} (h : pub.length = 32) {x y : Nat} (hy : y < 4294967296) : rdN (headB pub x y) = y := by
  unfold rdN headB
  rw [List.drop_left' (by rw [List.length_append, h, highB_length]), List.take_of_length_le (by rw [highB_length]; omega), ofHigh_highB]
  omega
theorem rdOk_headB {pub : List UInt8} (h : pub.length = 32) {x y : Nat} (hr : rightB x y = true) : rdOk (headB pub x y) = true := by
  have h1 := rightB_iff.1 hr
  unfold rdOk
  rw [rdM_headB h (by omega), rdN_headB h (by omega), hr, headB_length h]
  rfl
theorem rdC_headB {pub : List UInt8} (h : pub.length = 32) {x y : Nat} (hr : rightB x y = true) : rdC (headB pub x y) = headC pub x y := by
  have h1 := rightB_iff.1 hr
  unfold rdC
  rw [headB_length h, if_neg (by omega), rdOk_headB h hr, if_pos rfl, rdP_headB h, rdM_headB h (by omega), rdN_headB h (by omega)]
theorem rdE_headB {pub : List UInt8} (h : pub.length = 32) {x y : Nat} (hr : rightB x y = true) : rdE (headB pub x y) = 0 := by
  unfold rdE
  rw [headB_length h, if_neg (by omega), rdOk_headB h hr, if_pos rfl]
end Go.PBYtpjjledbmfmbiaa
