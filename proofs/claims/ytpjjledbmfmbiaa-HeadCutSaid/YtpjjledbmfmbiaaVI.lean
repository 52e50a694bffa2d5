/- Laws of operations on whole numbers below 0 too, and on words as natural numbers. No condition. -/
import Derived.Test.YtpjjledbmfmbiaaVS
namespace Go.PBYtpjjledbmfmbiaa
open Go Go.RowKit
set_option linter.unusedSimpArgs false
set_option linter.unusedVariables false

theorem ww {x : Nat} (h : x < 18446744073709551616) : IntKind.u64.wrap (x : Int) = (x : Int) := by
  simp only [IntKind.wrap, IntKind.bits, IntKind.signed]
  simp only [Bool.false_and, Bool.false_eq_true, if_false]
  omega
section
variable {P : Program} {n : Nat} {S : List Nat} {w0 : World} {ops : Array Oper} {Q : QE} {rest : List Oper} {d : Tmp} {ty : TypeId} {pos : String} {af : Array Edge} {g : Option (Nat × Bool)} {env : Env} {L : List Res} {T T' : TypeId} {x y : Operand}

theorem q_shr_i {k' : IntKind} {p : Int} {m : Nat} (hx : evalE env x = some (.int .i64 p)) (hy : evalE env y = some (.int k' (m : Int))) (hm : m ≤ 63) :
    QT P n S w0 { dst := some d, op := .binOp .shr T x y T', type := ty, pos, after := af, guard := g } env L (.val (.int .i64 (p / 2 ^ m))) :=
  q_shr_k hx hy (by
    rw [show min m IntKind.i64.bits = m from by show min m 64 = m; omega, Int.fdiv_eq_ediv_of_nonneg _ (Int.le_of_lt (Int.pow_pos (by omega)))])
theorem q_shl_i {k' : IntKind} {p : Int} {m : Nat} (hx : evalE env x = some (.int .i64 p)) (hy : evalE env y = some (.int k' (m : Int))) (hm : m ≤ 63) (h1 : -9223372036854775808 ≤ p * 2 ^ m) (h2 : p * 2 ^ m ≤ 9223372036854775807) :
    QT P n S w0 { dst := some d, op := .binOp .shl T x y T', type := ty, pos, after := af, guard := g } env L (.val (.int .i64 (p * 2 ^ m))) :=
  q_shl_k hx hy (by
    rw [show min m IntKind.i64.bits = m from by show min m 64 = m; omega, wi h1 h2])
theorem and_mask (p : Int) (k : Nat) (hk : k ≤ 62) : IntKind.i64.wrap ((BitVec.ofInt IntKind.i64.bits p &&& BitVec.ofInt IntKind.i64.bits (2 ^ k - 1)).toNat : Int) = p % 2 ^ k := by
  show IntKind.i64.wrap ((BitVec.ofInt 64 p &&& BitVec.ofInt 64 (2 ^ k - 1)).toNat : Int) = p % 2 ^ k
  have hk2 : (2 : Nat) ^ k ≤ 2 ^ 62 := Nat.pow_le_pow_right (by omega) hk
  have hk0 : 0 < (2 : Nat) ^ k := Nat.pow_pos (by omega)
  have e1 : (BitVec.ofInt 64 (2 ^ k - 1)).toNat = 2 ^ k - 1 := by
    rw [BitVec.toNat_ofInt]
    have : ((2 : Int) ^ k - 1) = ((2 ^ k - 1 : Nat) : Int) := by
      rw [Int.ofNat_sub (by omega)]; norm_cast
    rw [this]
    rw [Int.emod_eq_of_lt (by omega) (by omega)]
    rfl
  have e2 : ((BitVec.ofInt 64 p).toNat : Int) = p % 2 ^ 64 := by
    rw [BitVec.toNat_ofInt]
    rw [Int.toNat_of_nonneg (Int.emod_nonneg _ (by decide))]
    rfl
  rw [BitVec.toNat_and, e1, Nat.and_two_pow_sub_one_eq_mod]
  have e3 : (((BitVec.ofInt 64 p).toNat % 2 ^ k : Nat) : Int) = p % 2 ^ k := by
    rw [Int.natCast_emod, e2]
    have : ((2 ^ k : Nat) : Int) ∣ 2 ^ 64 := by
      refine ⟨((2 ^ (64 - k) : Nat) : Int), ?_⟩
      rw [← Int.natCast_mul, ← Nat.pow_add, show k + (64 - k) = 64 by omega]
      rfl
    rw [Int.emod_emod_of_dvd _ this]
    norm_cast
  rw [e3]
  have h3 : 0 ≤ p % 2 ^ k := Int.emod_nonneg _ (by have : (0 : Int) < 2 ^ k := Int.pow_pos (by omega); omega)
  have h4 : p % 2 ^ k < 2 ^ k := Int.emod_lt_of_pos _ (Int.pow_pos (by omega))
  have h5 : (2 : Int) ^ k ≤ 2 ^ 62 := by
    have : ((2 ^ k : Nat) : Int) ≤ ((2 ^ 62 : Nat) : Int) := Int.ofNat_le.2 hk2
    simpa using this
  exact wi (by omega) (by omega)
theorem q_and_i {p q : Int} (k : Nat) (hk : k ≤ 62) (hq : q = 2 ^ k - 1) (hx : evalE env x = some (.int .i64 p)) (hy : evalE env y = some (.int .i64 q)) :
    QT P n S w0 { dst := some d, op := .binOp .and T x y T', type := ty, pos, after := af, guard := g } env L (.val (.int .i64 (p % 2 ^ k))) :=
  q_and_k hx hy (by rw [hq]; exact and_mask p k hk)
theorem q_or_b {p q : Nat} (hp : p < 256) (hq : q < 256) (hx : evalE env x = some (.int .i64 (p : Int))) (hy : evalE env y = some (.int .i64 ((q : Int) * 256))) :
    QT P n S w0 { dst := some d, op := .binOp .or T x y T', type := ty, pos, after := af, guard := g } env L (.val (.int .i64 ((p + 256 * q : Nat) : Int))) :=
  q_or_k hx hy (by
    show IntKind.i64.wrap ((BitVec.ofInt 64 (p : Int) ||| BitVec.ofInt 64 ((q : Int) * 256)).toNat : Int) = _
    have e1 : (BitVec.ofInt 64 (p : Int)).toNat = p := by rw [BitVec.toNat_ofInt]; omega
    have e2 : (BitVec.ofInt 64 ((q : Int) * 256)).toNat = 2 ^ 8 * q := by rw [BitVec.toNat_ofInt]; omega
    rw [BitVec.toNat_or, e1, e2, Nat.or_comm, ← Nat.two_pow_add_eq_or_of_lt (by omega), wi (by omega) (by omega)]
    congr 1
    omega)
theorem q_conv_ib {src dst : TypeId} {ds : TypeDesc} {k' : IntKind} {p : Int} (hs : P.underlying src = some ds) (hd : P.underlying dst = some (.int .u8)) (hx : evalE env x = some (.int k' p)) :
    QT P n S w0 { dst := some d, op := .convert src dst x, type := ty, pos, after := af, guard := g } env L (.val (vU8 (UInt8.ofNat (p % 256).toNat))) :=
  q_conv_k hs hd hx (by
    simp only [IntKind.wrap, IntKind.bits, IntKind.signed, Bool.false_and, Bool.false_eq_true, if_false, UInt8.toNat_ofNat']
    omega)
theorem q_conv_nw {src dst : TypeId} {ds : TypeDesc} {k' : IntKind} {p : Nat} (hs : P.underlying src = some ds) (hd : P.underlying dst = some (.int .u64)) (hx : evalE env x = some (.int k' (p : Int))) (h : p < 18446744073709551616) :
    QT P n S w0 { dst := some d, op := .convert src dst x, type := ty, pos, after := af, guard := g } env L (.val (vW p)) :=
  q_conv_k hs hd hx (ww h)
theorem q_add_w {p q : Nat} (hx : evalE env x = some (vW p)) (hy : evalE env y = some (vW q)) (h : p + q < 18446744073709551616) :
    QT P n S w0 { dst := some d, op := .binOp .add T x y T', type := ty, pos, after := af, guard := g } env L (.val (vW (p + q))) :=
  q_add_k hx hy (by rw [← Int.natCast_add]; exact ww h)
theorem q_mul_w {p q : Nat} (hx : evalE env x = some (vW p)) (hy : evalE env y = some (vW q)) (h : p * q < 18446744073709551616) :
    QT P n S w0 { dst := some d, op := .binOp .mul T x y T', type := ty, pos, after := af, guard := g } env L (.val (vW (p * q))) :=
  q_mul_k hx hy (by rw [← Int.natCast_mul]; exact ww h)
theorem q_sub_w {p q : Nat} (hx : evalE env x = some (vW p)) (hy : evalE env y = some (vW q)) (h1 : q ≤ p) (h : p < 18446744073709551616) :
    QT P n S w0 { dst := some d, op := .binOp .sub T x y T', type := ty, pos, after := af, guard := g } env L (.val (vW (p - q))) :=
  q_sub_k hx hy (by rw [← Int.ofNat_sub h1]; exact ww (by omega))
theorem q_quo_w {p q : Nat} (hx : evalE env x = some (vW p)) (hy : evalE env y = some (vW q)) (h1 : 0 < q) (h : p < 18446744073709551616) :
    QT P n S w0 { dst := some d, op := .binOp .quo T x y T', type := ty, pos, after := af, guard := g } env L (.val (vW (p / q))) :=
  q_bin hx hy fun w => by
    have h0 : ¬ ((q : Int) = 0) := by omega
    have h3 : ((p : Int).tdiv (q : Int)) = ((p / q : Nat) : Int) := by rw [Int.tdiv_eq_ediv_of_nonneg (by omega)]; norm_cast
    have h4 : p / q ≤ p := Nat.div_le_self _ _
    have hq : q ≠ 0 := by omega
    have h5 := ww (x := p / q) (by omega)
    simp only [eqGuard, binOp, Op.intDiv, Sem.run_bind, h3, h5]
    simp [hq]
theorem l_stN {t : TypeId} {b j : Nat} {T : TypeId} {l : List Nat} {v : Nat} (k : Nat) (hx : evalE env x = some (vP b j)) (hy : evalE env y = some (vW v)) (hk : L[k]? = some (.blk b T (n64s l))) (hi : (P.info? t).map (·.size) = some 1) (hl : j < l.length)
    (h : VL P n S w0 ops Q rest env (L.set k (.blk b T (n64s (l.set j v))))) : VL P n S w0 ops Q ({ dst := none, op := .store t x y, type := ty, pos, after := af, guard := none } :: rest) env L :=
  l_store1 k hx hy hk hi rfl (by rw [n64s_length]; exact hl) (by rw [n64s_set]; exact h)
end
end Go.PBYtpjjledbmfmbiaa
