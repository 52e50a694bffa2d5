/- The laws of single operations, for the walk without worlds and frames. No condition. -/
import Derived.Test.YtngdppffcdhhlaaVR
import Derived.Test.YtngdppffcdhhlaaPT
namespace Go.PBYtngdppffcdhhlaa
open Go Go.RowKit
set_option linter.unusedSimpArgs false
set_option linter.unusedVariables false

abbrev vU8 (x : UInt8) : Value := .int .u8 (x.toNat : Int)
abbrev vU32 (x : UInt32) : Value := .int .u32 (x.toNat : Int)
abbrev vU64 (x : UInt64) : Value := .int .u64 (x.toNat : Int)
abbrev vI (x : Int) : Value := .int .i64 x
abbrev vN (x : Nat) : Value := .int .i64 (x : Int)
abbrev vP (b o : Nat) : Value := .pointer (some ⟨b, o, none⟩)


theorem wi {x : Int} (h1 : -9223372036854775808 ≤ x) (h2 : x ≤ 9223372036854775807) : IntKind.i64.wrap x = x := by rw [IntKind.wrap_i64]; omega

theorem wrap_add_u8 (x y : UInt8) : IntKind.u8.wrap ((x.toNat : Int) + (y.toNat : Int)) = ((x + y).toNat : Int) := by
  have h : (x + y).toNat = (x.toNat + y.toNat) % 2 ^ 8 := UInt8.toNat_add x y
  rw [h]
  simp only [IntKind.wrap, IntKind.bits, IntKind.signed]
  simp

theorem wrap_mul_u8 (x y : UInt8) : IntKind.u8.wrap ((x.toNat : Int) * (y.toNat : Int)) = ((x * y).toNat : Int) := by
  have h : (x * y).toNat = (x.toNat * y.toNat) % 2 ^ 8 := UInt8.toNat_mul x y
  rw [h]
  simp only [IntKind.wrap, IntKind.bits, IntKind.signed]
  simp

theorem wrap_sub_u8 (x y : UInt8) : IntKind.u8.wrap ((x.toNat : Int) - (y.toNat : Int)) = ((x - y).toNat : Int) := by
  have h : (x - y).toNat = (2 ^ 8 - y.toNat + x.toNat) % 2 ^ 8 := UInt8.toNat_sub x y
  have h1 := UInt8.toNat_lt x
  have h2 := UInt8.toNat_lt y
  rw [h]
  simp only [IntKind.wrap, IntKind.bits, IntKind.signed]
  simp only [Bool.false_and, Bool.false_eq_true, if_false]
  omega
theorem wrap_self_u8 (x : UInt8) : IntKind.u8.wrap (x.toNat : Int) = (x.toNat : Int) := by
  have h1 := UInt8.toNat_lt x
  simp only [IntKind.wrap, IntKind.bits, IntKind.signed]
  simp only [Bool.false_and, Bool.false_eq_true, if_false]
  omega
theorem bv_u8 (x : UInt8) : BitVec.ofInt 8 (x.toNat : Int) = x.toBitVec := by
  apply BitVec.eq_of_toNat_eq
  have h1 := UInt8.toNat_lt x
  simp only [BitVec.toNat_ofInt]
  show _ = x.toNat
  omega

theorem wrap_add_u32 (x y : UInt32) : IntKind.u32.wrap ((x.toNat : Int) + (y.toNat : Int)) = ((x + y).toNat : Int) := by
  have h : (x + y).toNat = (x.toNat + y.toNat) % 2 ^ 32 := UInt32.toNat_add x y
  rw [h]
  simp only [IntKind.wrap, IntKind.bits, IntKind.signed]
  simp

theorem wrap_mul_u32 (x y : UInt32) : IntKind.u32.wrap ((x.toNat : Int) * (y.toNat : Int)) = ((x * y).toNat : Int) := by
  have h : (x * y).toNat = (x.toNat * y.toNat) % 2 ^ 32 := UInt32.toNat_mul x y
  rw [h]
  simp only [IntKind.wrap, IntKind.bits, IntKind.signed]
  simp

theorem wrap_sub_u32 (x y : UInt32) : IntKind.u32.wrap ((x.toNat : Int) - (y.toNat : Int)) = ((x - y).toNat : Int) := by
  have h : (x - y).toNat = (2 ^ 32 - y.toNat + x.toNat) % 2 ^ 32 := UInt32.toNat_sub x y
  have h1 := UInt32.toNat_lt x
  have h2 := UInt32.toNat_lt y
  rw [h]
  simp only [IntKind.wrap, IntKind.bits, IntKind.signed]
  simp only [Bool.false_and, Bool.false_eq_true, if_false]
  omega
theorem wrap_self_u32 (x : UInt32) : IntKind.u32.wrap (x.toNat : Int) = (x.toNat : Int) := by
  have h1 := UInt32.toNat_lt x
  simp only [IntKind.wrap, IntKind.bits, IntKind.signed]
  simp only [Bool.false_and, Bool.false_eq_true, if_false]
  omega
theorem bv_u32 (x : UInt32) : BitVec.ofInt 32 (x.toNat : Int) = x.toBitVec := by
  apply BitVec.eq_of_toNat_eq
  have h1 := UInt32.toNat_lt x
  simp only [BitVec.toNat_ofInt]
  show _ = x.toNat
  omega

theorem wrap_add_u64 (x y : UInt64) : IntKind.u64.wrap ((x.toNat : Int) + (y.toNat : Int)) = ((x + y).toNat : Int) := by
  have h : (x + y).toNat = (x.toNat + y.toNat) % 2 ^ 64 := UInt64.toNat_add x y
  rw [h]
  simp only [IntKind.wrap, IntKind.bits, IntKind.signed]
  simp

theorem wrap_mul_u64 (x y : UInt64) : IntKind.u64.wrap ((x.toNat : Int) * (y.toNat : Int)) = ((x * y).toNat : Int) := by
  have h : (x * y).toNat = (x.toNat * y.toNat) % 2 ^ 64 := UInt64.toNat_mul x y
  rw [h]
  simp only [IntKind.wrap, IntKind.bits, IntKind.signed]
  simp

theorem wrap_sub_u64 (x y : UInt64) : IntKind.u64.wrap ((x.toNat : Int) - (y.toNat : Int)) = ((x - y).toNat : Int) := by
  have h : (x - y).toNat = (2 ^ 64 - y.toNat + x.toNat) % 2 ^ 64 := UInt64.toNat_sub x y
  have h1 := UInt64.toNat_lt x
  have h2 := UInt64.toNat_lt y
  rw [h]
  simp only [IntKind.wrap, IntKind.bits, IntKind.signed]
  simp only [Bool.false_and, Bool.false_eq_true, if_false]
  omega
theorem wrap_self_u64 (x : UInt64) : IntKind.u64.wrap (x.toNat : Int) = (x.toNat : Int) := by
  have h1 := UInt64.toNat_lt x
  simp only [IntKind.wrap, IntKind.bits, IntKind.signed]
  simp only [Bool.false_and, Bool.false_eq_true, if_false]
  omega
theorem bv_u64 (x : UInt64) : BitVec.ofInt 64 (x.toNat : Int) = x.toBitVec := by
  apply BitVec.eq_of_toNat_eq
  have h1 := UInt64.toNat_lt x
  simp only [BitVec.toNat_ofInt]
  show _ = x.toNat
  omega


section
variable {P : Program} {n : Nat} {S : List Nat} {w0 : World} {env : Env} {L : List Res} {Q : QE} {ops : Array Oper} {rest : List Oper}
variable {d : Tmp} {ty : TypeId} {pos : String} {af : Array Edge} {g : Option (Nat × Bool)} {o : Oper}

/-! ### the rules -/
theorem q_of {f : Value} (hd : o.dst = some d) (h : ∀ a w, Models n env a → St S w0 L w → (execOp a.eval o).run P w = .ok (.value f) w) : QT P n S w0 o env L (.val f) := by
  refine ⟨fun a w hm H => ?_⟩
  unfold Oper.wp
  rw [h a w hm H]
  show ∃ v, a.put o.dst f = a.put o.dst v ∧ (o.dst = none → v = undef) ∧ (Sp.val f).fact v ∧ St [] w ((Sp.val f).res v) w
  exact ⟨f, rfl, fun hn => absurd (hd.symm.trans hn) (fun h => by cases h), rfl, St.refl w⟩
theorem vl_nil (h : Q .normal env L) : VL P n S w0 ops Q [] env L := ⟨fun a w hm H => ⟨env, L, hm, H, h⟩⟩
theorem vl_q {s : Sp} (hq : QT P n S w0 o env L s) (hg : Met ops env o.guard) (hd : dstOk n o.dst = true) (h : ∀ v, s.fact v → VL P n S w0 ops Q rest (ext o.dst v env) (s.res v ++ L)) : VL P n S w0 ops Q (o :: rest) env L := by
  refine ⟨fun a w hm H => ?_⟩
  unfold wpList
  rw [if_pos (hg.wanted hm)]
  left
  have hw := hq.run a w hm H
  unfold Oper.wp at hw ⊢
  refine upon_imp hw ?_ ?_
  · rintro v w' ⟨u, h1, h2, h3, h4⟩
    rw [h1]
    exact (h u h3).run _ w' (hm.put hd u) ((H.join h4).perm List.perm_append_comm)
  · rintro e w' ⟨u, h1, _⟩
    have h5 := congrArg Act.defers h1
    rw [put_defs, put_defs] at h5
    have h6 := congrArg List.length h5
    simp at h6
/-- it comes to a value -/
theorem vl_v {op : Op} {f : Value} (hq : QT P n S w0 { dst := some d, op, type := ty, pos, after := af, guard := none } env L (.val f)) (hd : dstOk n (some d) = true) (h : VL P n S w0 ops Q rest ((d, f) :: env) L) :
    VL P n S w0 ops Q ({ dst := some d, op, type := ty, pos, after := af, guard := none } :: rest) env L :=
  vl_q hq trivial hd (by rintro v rfl; exact h)
/-- the same, guarded -/
theorem vl_vg {op : Op} {f : Value} (hg : Met ops env g) (hq : QT P n S w0 { dst := some d, op, type := ty, pos, after := af, guard := g } env L (.val f)) (hd : dstOk n (some d) = true) (h : VL P n S w0 ops Q rest ((d, f) :: env) L) :
    VL P n S w0 ops Q ({ dst := some d, op, type := ty, pos, after := af, guard := g } :: rest) env L :=
  vl_q hq hg hd (by rintro v rfl; exact h)
theorem vl_skip (hu : Unmet ops env o.guard) (hd : dstOk n o.dst = true) (h : VL P n S w0 ops Q rest (ext o.dst undef env) L) : VL P n S w0 ops Q (o :: rest) env L := by
  refine ⟨fun a w hm H => ?_⟩
  unfold wpList
  rw [hu.wanted hm]
  simp only [Bool.false_eq_true, if_false]
  exact h.run _ w (hm.put hd undef) H
/-- a guard that is a letter: both ways -/
theorem vl_split {l : List Oper} (t : Bool) (ht : t = true → VL P n S w0 ops Q l env L) (hf : t = false → VL P n S w0 ops Q l env L) : VL P n S w0 ops Q l env L := by
  cases t
  · exact hf rfl
  · exact ht rfl
theorem VL.sub {l : List Oper} {env' : Env} {L' : List Res} (h : VL P n S w0 ops Q l env' L') (he : Sub env env') (hL : ∀ w, St S w0 L w → St S w0 L' w) : VL P n S w0 ops Q l env L :=
  ⟨fun a w hm H => h.run a w (hm.sub he) (hL w H)⟩
theorem VC_region {id : Nat} {l : List Oper} (h : VL P n S w0 l.toArray Q l env L) : VC P n S w0 (.region id l.toArray false) Q env L :=
  ⟨fun a w hm H => Go.wp_region_lit (h.run a w hm H)⟩

/-! ### values -/
theorem q_move {x : Operand} {v : Value} (hx : evalE env x = some v) : QT P n S w0 { dst := some d, op := .move x, type := ty, pos, after := af, guard := g } env L (.val v) :=
  q_of rfl fun a w hm H => by simp [execOp, hm.eval hx]
theorem q_assign {x : Operand} {v : Value} (hx : evalE env x = some v) : QT P n S w0 { dst := some d, op := .assign x, type := ty, pos, after := af, guard := g } env L (.val v) :=
  q_of rfl fun a w hm H => by simp [execOp, hm.eval hx]
theorem q_pickT {c x y : Operand} {v : Value} (hc : evalE env c = some (.bool true)) (hx : evalE env x = some v) : QT P n S w0 { dst := some d, op := .pick c x y, type := ty, pos, after := af, guard := g } env L (.val v) :=
  q_of rfl fun a w hm H => by simp [execOp, hm.eval hc, hm.eval hx, asBool]
theorem q_pickF {c x y : Operand} {v : Value} (hc : evalE env c = some (.bool false)) (hy : evalE env y = some v) : QT P n S w0 { dst := some d, op := .pick c x y, type := ty, pos, after := af, guard := g } env L (.val v) :=
  q_of rfl fun a w hm H => by simp [execOp, hm.eval hc, hm.eval hy, asBool]
theorem q_bin {op : BinOp} {T T' : TypeId} {x y : Operand} {vx vy f : Value} (hx : evalE env x = some vx) (hy : evalE env y = some vy) (h : ∀ w, (do eqGuard op T x y vx vy; binOp op T vx vy : Sem Value).run P w = .ok f w) :
    QT P n S w0 { dst := some d, op := .binOp op T x y T', type := ty, pos, after := af, guard := g } env L (.val f) :=
  q_of rfl fun a w hm H => by
    have := h w
    simp only [Sem.run_bind] at this
    simp only [execOp, hm.eval hx, hm.eval hy, Sem.run_bind, bind_assoc]
    cases h1 : (eqGuard op T x y vx vy).run P w with
    | halt e w' => rw [h1] at this; simp at this
    | ok u w' =>
      rw [h1] at this
      simp only [Result.andThen_ok] at this ⊢
      rw [this]
      simp

theorem q_add_k {T T' : TypeId} {x y : Operand} {k : IntKind} {p q r : Int} (hx : evalE env x = some (.int k p)) (hy : evalE env y = some (.int k q)) (hr : k.wrap (p + q) = r) :
    QT P n S w0 { dst := some d, op := .binOp .add T x y T', type := ty, pos, after := af, guard := g } env L (.val (.int k r)) :=
  q_bin hx hy fun w => by simp [eqGuard, binOp, Op.intArith, hr]
theorem q_add_i {T T' : TypeId} {x y : Operand} {p q : Int} (hx : evalE env x = some (.int .i64 p)) (hy : evalE env y = some (.int .i64 q)) (h1 : -9223372036854775808 ≤ p + q) (h2 : p + q ≤ 9223372036854775807) :
    QT P n S w0 { dst := some d, op := .binOp .add T x y T', type := ty, pos, after := af, guard := g } env L (.val (.int .i64 (p + q))) :=
  q_add_k hx hy (by rw [wi h1 h2])

theorem q_add_n {T T' : TypeId} {x y : Operand} {p q : Nat} (hx : evalE env x = some (.int .i64 (p : Int))) (hy : evalE env y = some (.int .i64 (q : Int))) (h2 : p + q ≤ 9223372036854775807) :
    QT P n S w0 { dst := some d, op := .binOp .add T x y T', type := ty, pos, after := af, guard := g } env L (.val (.int .i64 ((p + q : Nat) : Int))) :=
  q_add_k hx hy (by rw [← Int.natCast_add, wi (by omega) (by omega)])

theorem q_add_u8 {T T' : TypeId} {x y : Operand} {p q : UInt8} (hx : evalE env x = some (vU8 p)) (hy : evalE env y = some (vU8 q)) :
    QT P n S w0 { dst := some d, op := .binOp .add T x y T', type := ty, pos, after := af, guard := g } env L (.val (vU8 (p + q))) :=
  q_add_k hx hy (wrap_add_u8 p q)

theorem q_add_u32 {T T' : TypeId} {x y : Operand} {p q : UInt32} (hx : evalE env x = some (vU32 p)) (hy : evalE env y = some (vU32 q)) :
    QT P n S w0 { dst := some d, op := .binOp .add T x y T', type := ty, pos, after := af, guard := g } env L (.val (vU32 (p + q))) :=
  q_add_k hx hy (wrap_add_u32 p q)

theorem q_add_u64 {T T' : TypeId} {x y : Operand} {p q : UInt64} (hx : evalE env x = some (vU64 p)) (hy : evalE env y = some (vU64 q)) :
    QT P n S w0 { dst := some d, op := .binOp .add T x y T', type := ty, pos, after := af, guard := g } env L (.val (vU64 (p + q))) :=
  q_add_k hx hy (wrap_add_u64 p q)

theorem q_sub_k {T T' : TypeId} {x y : Operand} {k : IntKind} {p q r : Int} (hx : evalE env x = some (.int k p)) (hy : evalE env y = some (.int k q)) (hr : k.wrap (p - q) = r) :
    QT P n S w0 { dst := some d, op := .binOp .sub T x y T', type := ty, pos, after := af, guard := g } env L (.val (.int k r)) :=
  q_bin hx hy fun w => by simp [eqGuard, binOp, Op.intArith, hr]
theorem q_sub_i {T T' : TypeId} {x y : Operand} {p q : Int} (hx : evalE env x = some (.int .i64 p)) (hy : evalE env y = some (.int .i64 q)) (h1 : -9223372036854775808 ≤ p - q) (h2 : p - q ≤ 9223372036854775807) :
    QT P n S w0 { dst := some d, op := .binOp .sub T x y T', type := ty, pos, after := af, guard := g } env L (.val (.int .i64 (p - q))) :=
  q_sub_k hx hy (by rw [wi h1 h2])

theorem q_sub_n {T T' : TypeId} {x y : Operand} {p q : Nat} (hx : evalE env x = some (.int .i64 (p : Int))) (hy : evalE env y = some (.int .i64 (q : Int))) (h1 : q ≤ p) (h2 : p ≤ 9223372036854775807) :
    QT P n S w0 { dst := some d, op := .binOp .sub T x y T', type := ty, pos, after := af, guard := g } env L (.val (.int .i64 ((p - q : Nat) : Int))) :=
  q_sub_k hx hy (by rw [Int.ofNat_sub h1, wi (by omega) (by omega)])

theorem q_sub_u8 {T T' : TypeId} {x y : Operand} {p q : UInt8} (hx : evalE env x = some (vU8 p)) (hy : evalE env y = some (vU8 q)) :
    QT P n S w0 { dst := some d, op := .binOp .sub T x y T', type := ty, pos, after := af, guard := g } env L (.val (vU8 (p - q))) :=
  q_sub_k hx hy (wrap_sub_u8 p q)

theorem q_sub_u32 {T T' : TypeId} {x y : Operand} {p q : UInt32} (hx : evalE env x = some (vU32 p)) (hy : evalE env y = some (vU32 q)) :
    QT P n S w0 { dst := some d, op := .binOp .sub T x y T', type := ty, pos, after := af, guard := g } env L (.val (vU32 (p - q))) :=
  q_sub_k hx hy (wrap_sub_u32 p q)

theorem q_sub_u64 {T T' : TypeId} {x y : Operand} {p q : UInt64} (hx : evalE env x = some (vU64 p)) (hy : evalE env y = some (vU64 q)) :
    QT P n S w0 { dst := some d, op := .binOp .sub T x y T', type := ty, pos, after := af, guard := g } env L (.val (vU64 (p - q))) :=
  q_sub_k hx hy (wrap_sub_u64 p q)

theorem q_mul_k {T T' : TypeId} {x y : Operand} {k : IntKind} {p q r : Int} (hx : evalE env x = some (.int k p)) (hy : evalE env y = some (.int k q)) (hr : k.wrap (p * q) = r) :
    QT P n S w0 { dst := some d, op := .binOp .mul T x y T', type := ty, pos, after := af, guard := g } env L (.val (.int k r)) :=
  q_bin hx hy fun w => by simp [eqGuard, binOp, Op.intArith, hr]
theorem q_mul_i {T T' : TypeId} {x y : Operand} {p q : Int} (hx : evalE env x = some (.int .i64 p)) (hy : evalE env y = some (.int .i64 q)) (h1 : -9223372036854775808 ≤ p * q) (h2 : p * q ≤ 9223372036854775807) :
    QT P n S w0 { dst := some d, op := .binOp .mul T x y T', type := ty, pos, after := af, guard := g } env L (.val (.int .i64 (p * q))) :=
  q_mul_k hx hy (by rw [wi h1 h2])

theorem q_mul_n {T T' : TypeId} {x y : Operand} {p q : Nat} (hx : evalE env x = some (.int .i64 (p : Int))) (hy : evalE env y = some (.int .i64 (q : Int))) (h2 : p * q ≤ 9223372036854775807) :
    QT P n S w0 { dst := some d, op := .binOp .mul T x y T', type := ty, pos, after := af, guard := g } env L (.val (.int .i64 ((p * q : Nat) : Int))) :=
  q_mul_k hx hy (by rw [← Int.natCast_mul, wi (by omega) (by omega)])

theorem q_mul_u8 {T T' : TypeId} {x y : Operand} {p q : UInt8} (hx : evalE env x = some (vU8 p)) (hy : evalE env y = some (vU8 q)) :
    QT P n S w0 { dst := some d, op := .binOp .mul T x y T', type := ty, pos, after := af, guard := g } env L (.val (vU8 (p * q))) :=
  q_mul_k hx hy (wrap_mul_u8 p q)

theorem q_mul_u32 {T T' : TypeId} {x y : Operand} {p q : UInt32} (hx : evalE env x = some (vU32 p)) (hy : evalE env y = some (vU32 q)) :
    QT P n S w0 { dst := some d, op := .binOp .mul T x y T', type := ty, pos, after := af, guard := g } env L (.val (vU32 (p * q))) :=
  q_mul_k hx hy (wrap_mul_u32 p q)

theorem q_mul_u64 {T T' : TypeId} {x y : Operand} {p q : UInt64} (hx : evalE env x = some (vU64 p)) (hy : evalE env y = some (vU64 q)) :
    QT P n S w0 { dst := some d, op := .binOp .mul T x y T', type := ty, pos, after := af, guard := g } env L (.val (vU64 (p * q))) :=
  q_mul_k hx hy (wrap_mul_u64 p q)

theorem q_and_k {T T' : TypeId} {x y : Operand} {k : IntKind} {p q r : Int} (hx : evalE env x = some (.int k p)) (hy : evalE env y = some (.int k q)) (hr : k.wrap ((BitVec.ofInt k.bits p &&& BitVec.ofInt k.bits q).toNat : Int) = r) :
    QT P n S w0 { dst := some d, op := .binOp .and T x y T', type := ty, pos, after := af, guard := g } env L (.val (.int k r)) :=
  q_bin hx hy fun w => by simpa [eqGuard, binOp, Op.intBits] using hr

theorem q_and_u8 {T T' : TypeId} {x y : Operand} {p q : UInt8} (hx : evalE env x = some (vU8 p)) (hy : evalE env y = some (vU8 q)) :
    QT P n S w0 { dst := some d, op := .binOp .and T x y T', type := ty, pos, after := af, guard := g } env L (.val (vU8 (p &&& q))) :=
  q_and_k hx hy (by
    have h : (BitVec.ofInt IntKind.u8.bits (p.toNat : Int) &&& BitVec.ofInt IntKind.u8.bits (q.toNat : Int)).toNat = (p &&& q).toNat := by
      show (BitVec.ofInt 8 (p.toNat : Int) &&& BitVec.ofInt 8 (q.toNat : Int)).toNat = _
      rw [bv_u8, bv_u8]
      rfl
    rw [h, wrap_self_u8])

theorem q_and_u32 {T T' : TypeId} {x y : Operand} {p q : UInt32} (hx : evalE env x = some (vU32 p)) (hy : evalE env y = some (vU32 q)) :
    QT P n S w0 { dst := some d, op := .binOp .and T x y T', type := ty, pos, after := af, guard := g } env L (.val (vU32 (p &&& q))) :=
  q_and_k hx hy (by
    have h : (BitVec.ofInt IntKind.u32.bits (p.toNat : Int) &&& BitVec.ofInt IntKind.u32.bits (q.toNat : Int)).toNat = (p &&& q).toNat := by
      show (BitVec.ofInt 32 (p.toNat : Int) &&& BitVec.ofInt 32 (q.toNat : Int)).toNat = _
      rw [bv_u32, bv_u32]
      rfl
    rw [h, wrap_self_u32])

theorem q_and_u64 {T T' : TypeId} {x y : Operand} {p q : UInt64} (hx : evalE env x = some (vU64 p)) (hy : evalE env y = some (vU64 q)) :
    QT P n S w0 { dst := some d, op := .binOp .and T x y T', type := ty, pos, after := af, guard := g } env L (.val (vU64 (p &&& q))) :=
  q_and_k hx hy (by
    have h : (BitVec.ofInt IntKind.u64.bits (p.toNat : Int) &&& BitVec.ofInt IntKind.u64.bits (q.toNat : Int)).toNat = (p &&& q).toNat := by
      show (BitVec.ofInt 64 (p.toNat : Int) &&& BitVec.ofInt 64 (q.toNat : Int)).toNat = _
      rw [bv_u64, bv_u64]
      rfl
    rw [h, wrap_self_u64])

theorem q_or_k {T T' : TypeId} {x y : Operand} {k : IntKind} {p q r : Int} (hx : evalE env x = some (.int k p)) (hy : evalE env y = some (.int k q)) (hr : k.wrap ((BitVec.ofInt k.bits p ||| BitVec.ofInt k.bits q).toNat : Int) = r) :
    QT P n S w0 { dst := some d, op := .binOp .or T x y T', type := ty, pos, after := af, guard := g } env L (.val (.int k r)) :=
  q_bin hx hy fun w => by simpa [eqGuard, binOp, Op.intBits] using hr

theorem q_or_u8 {T T' : TypeId} {x y : Operand} {p q : UInt8} (hx : evalE env x = some (vU8 p)) (hy : evalE env y = some (vU8 q)) :
    QT P n S w0 { dst := some d, op := .binOp .or T x y T', type := ty, pos, after := af, guard := g } env L (.val (vU8 (p ||| q))) :=
  q_or_k hx hy (by
    have h : (BitVec.ofInt IntKind.u8.bits (p.toNat : Int) ||| BitVec.ofInt IntKind.u8.bits (q.toNat : Int)).toNat = (p ||| q).toNat := by
      show (BitVec.ofInt 8 (p.toNat : Int) ||| BitVec.ofInt 8 (q.toNat : Int)).toNat = _
      rw [bv_u8, bv_u8]
      rfl
    rw [h, wrap_self_u8])

theorem q_or_u32 {T T' : TypeId} {x y : Operand} {p q : UInt32} (hx : evalE env x = some (vU32 p)) (hy : evalE env y = some (vU32 q)) :
    QT P n S w0 { dst := some d, op := .binOp .or T x y T', type := ty, pos, after := af, guard := g } env L (.val (vU32 (p ||| q))) :=
  q_or_k hx hy (by
    have h : (BitVec.ofInt IntKind.u32.bits (p.toNat : Int) ||| BitVec.ofInt IntKind.u32.bits (q.toNat : Int)).toNat = (p ||| q).toNat := by
      show (BitVec.ofInt 32 (p.toNat : Int) ||| BitVec.ofInt 32 (q.toNat : Int)).toNat = _
      rw [bv_u32, bv_u32]
      rfl
    rw [h, wrap_self_u32])

theorem q_or_u64 {T T' : TypeId} {x y : Operand} {p q : UInt64} (hx : evalE env x = some (vU64 p)) (hy : evalE env y = some (vU64 q)) :
    QT P n S w0 { dst := some d, op := .binOp .or T x y T', type := ty, pos, after := af, guard := g } env L (.val (vU64 (p ||| q))) :=
  q_or_k hx hy (by
    have h : (BitVec.ofInt IntKind.u64.bits (p.toNat : Int) ||| BitVec.ofInt IntKind.u64.bits (q.toNat : Int)).toNat = (p ||| q).toNat := by
      show (BitVec.ofInt 64 (p.toNat : Int) ||| BitVec.ofInt 64 (q.toNat : Int)).toNat = _
      rw [bv_u64, bv_u64]
      rfl
    rw [h, wrap_self_u64])

theorem q_xor_k {T T' : TypeId} {x y : Operand} {k : IntKind} {p q r : Int} (hx : evalE env x = some (.int k p)) (hy : evalE env y = some (.int k q)) (hr : k.wrap ((BitVec.ofInt k.bits p ^^^ BitVec.ofInt k.bits q).toNat : Int) = r) :
    QT P n S w0 { dst := some d, op := .binOp .xor T x y T', type := ty, pos, after := af, guard := g } env L (.val (.int k r)) :=
  q_bin hx hy fun w => by simpa [eqGuard, binOp, Op.intBits] using hr

theorem q_xor_u8 {T T' : TypeId} {x y : Operand} {p q : UInt8} (hx : evalE env x = some (vU8 p)) (hy : evalE env y = some (vU8 q)) :
    QT P n S w0 { dst := some d, op := .binOp .xor T x y T', type := ty, pos, after := af, guard := g } env L (.val (vU8 (p ^^^ q))) :=
  q_xor_k hx hy (by
    have h : (BitVec.ofInt IntKind.u8.bits (p.toNat : Int) ^^^ BitVec.ofInt IntKind.u8.bits (q.toNat : Int)).toNat = (p ^^^ q).toNat := by
      show (BitVec.ofInt 8 (p.toNat : Int) ^^^ BitVec.ofInt 8 (q.toNat : Int)).toNat = _
      rw [bv_u8, bv_u8]
      rfl
    rw [h, wrap_self_u8])

theorem q_xor_u32 {T T' : TypeId} {x y : Operand} {p q : UInt32} (hx : evalE env x = some (vU32 p)) (hy : evalE env y = some (vU32 q)) :
    QT P n S w0 { dst := some d, op := .binOp .xor T x y T', type := ty, pos, after := af, guard := g } env L (.val (vU32 (p ^^^ q))) :=
  q_xor_k hx hy (by
    have h : (BitVec.ofInt IntKind.u32.bits (p.toNat : Int) ^^^ BitVec.ofInt IntKind.u32.bits (q.toNat : Int)).toNat = (p ^^^ q).toNat := by
      show (BitVec.ofInt 32 (p.toNat : Int) ^^^ BitVec.ofInt 32 (q.toNat : Int)).toNat = _
      rw [bv_u32, bv_u32]
      rfl
    rw [h, wrap_self_u32])

theorem q_xor_u64 {T T' : TypeId} {x y : Operand} {p q : UInt64} (hx : evalE env x = some (vU64 p)) (hy : evalE env y = some (vU64 q)) :
    QT P n S w0 { dst := some d, op := .binOp .xor T x y T', type := ty, pos, after := af, guard := g } env L (.val (vU64 (p ^^^ q))) :=
  q_xor_k hx hy (by
    have h : (BitVec.ofInt IntKind.u64.bits (p.toNat : Int) ^^^ BitVec.ofInt IntKind.u64.bits (q.toNat : Int)).toNat = (p ^^^ q).toNat := by
      show (BitVec.ofInt 64 (p.toNat : Int) ^^^ BitVec.ofInt 64 (q.toNat : Int)).toNat = _
      rw [bv_u64, bv_u64]
      rfl
    rw [h, wrap_self_u64])

theorem q_shl_k {T T' : TypeId} {x y : Operand} {k k' : IntKind} {p : Int} {m : Nat} {r : Int} (hx : evalE env x = some (.int k p)) (hy : evalE env y = some (.int k' (m : Int))) (hr : k.wrap (p * 2 ^ (min m k.bits)) = r) :
    QT P n S w0 { dst := some d, op := .binOp .shl T x y T', type := ty, pos, after := af, guard := g } env L (.val (.int k r)) :=
  q_bin hx hy fun w => by
    have h : ¬ ((m : Int) < 0) := by omega
    simp [eqGuard, binOp, Op.shift, h, hr]
theorem q_shr_k {T T' : TypeId} {x y : Operand} {k k' : IntKind} {p : Int} {m : Nat} {r : Int} (hx : evalE env x = some (.int k p)) (hy : evalE env y = some (.int k' (m : Int))) (hr : p.fdiv (2 ^ (min m k.bits)) = r) :
    QT P n S w0 { dst := some d, op := .binOp .shr T x y T', type := ty, pos, after := af, guard := g } env L (.val (.int k r)) :=
  q_bin hx hy fun w => by
    have h : ¬ ((m : Int) < 0) := by omega
    simp [eqGuard, binOp, Op.shift, h, hr]

theorem q_shl_u8 {T T' : TypeId} {x y : Operand} {k' : IntKind} {p : UInt8} {m : Nat} (hx : evalE env x = some (vU8 p)) (hy : evalE env y = some (.int k' (m : Int))) :
    QT P n S w0 { dst := some d, op := .binOp .shl T x y T', type := ty, pos, after := af, guard := g } env L (.val (vU8 (UInt8.ofNat (p.toNat * 2 ^ (min m 8))))) :=
  q_shl_k hx hy (by
    simp only [IntKind.wrap, IntKind.bits, IntKind.signed, Bool.false_and, Bool.false_eq_true, if_false, UInt8.toNat_ofNat']
    norm_cast)
theorem q_shr_u8 {T T' : TypeId} {x y : Operand} {k' : IntKind} {p : UInt8} {m : Nat} (hx : evalE env x = some (vU8 p)) (hy : evalE env y = some (.int k' (m : Int))) :
    QT P n S w0 { dst := some d, op := .binOp .shr T x y T', type := ty, pos, after := af, guard := g } env L (.val (vU8 (UInt8.ofNat (p.toNat / 2 ^ (min m 8))))) :=
  q_shr_k hx hy (by
    have h1 := UInt8.toNat_lt p
    have h2 : p.toNat / 2 ^ (min m 8) < 2 ^ 8 := Nat.lt_of_le_of_lt (Nat.div_le_self _ _) h1
    simp only [IntKind.bits, UInt8.toNat_ofNat']
    rw [Nat.mod_eq_of_lt h2, Int.fdiv_eq_ediv_of_nonneg _ (by exact Int.le_of_lt (Int.pow_pos (by omega)))]
    norm_cast)

theorem q_shl_u32 {T T' : TypeId} {x y : Operand} {k' : IntKind} {p : UInt32} {m : Nat} (hx : evalE env x = some (vU32 p)) (hy : evalE env y = some (.int k' (m : Int))) :
    QT P n S w0 { dst := some d, op := .binOp .shl T x y T', type := ty, pos, after := af, guard := g } env L (.val (vU32 (UInt32.ofNat (p.toNat * 2 ^ (min m 32))))) :=
  q_shl_k hx hy (by
    simp only [IntKind.wrap, IntKind.bits, IntKind.signed, Bool.false_and, Bool.false_eq_true, if_false, UInt32.toNat_ofNat']
    norm_cast)
theorem q_shr_u32 {T T' : TypeId} {x y : Operand} {k' : IntKind} {p : UInt32} {m : Nat} (hx : evalE env x = some (vU32 p)) (hy : evalE env y = some (.int k' (m : Int))) :
    QT P n S w0 { dst := some d, op := .binOp .shr T x y T', type := ty, pos, after := af, guard := g } env L (.val (vU32 (UInt32.ofNat (p.toNat / 2 ^ (min m 32))))) :=
  q_shr_k hx hy (by
    have h1 := UInt32.toNat_lt p
    have h2 : p.toNat / 2 ^ (min m 32) < 2 ^ 32 := Nat.lt_of_le_of_lt (Nat.div_le_self _ _) h1
    simp only [IntKind.bits, UInt32.toNat_ofNat']
    rw [Nat.mod_eq_of_lt h2, Int.fdiv_eq_ediv_of_nonneg _ (by exact Int.le_of_lt (Int.pow_pos (by omega)))]
    norm_cast)

theorem q_shl_u64 {T T' : TypeId} {x y : Operand} {k' : IntKind} {p : UInt64} {m : Nat} (hx : evalE env x = some (vU64 p)) (hy : evalE env y = some (.int k' (m : Int))) :
    QT P n S w0 { dst := some d, op := .binOp .shl T x y T', type := ty, pos, after := af, guard := g } env L (.val (vU64 (UInt64.ofNat (p.toNat * 2 ^ (min m 64))))) :=
  q_shl_k hx hy (by
    simp only [IntKind.wrap, IntKind.bits, IntKind.signed, Bool.false_and, Bool.false_eq_true, if_false, UInt64.toNat_ofNat']
    norm_cast)
theorem q_shr_u64 {T T' : TypeId} {x y : Operand} {k' : IntKind} {p : UInt64} {m : Nat} (hx : evalE env x = some (vU64 p)) (hy : evalE env y = some (.int k' (m : Int))) :
    QT P n S w0 { dst := some d, op := .binOp .shr T x y T', type := ty, pos, after := af, guard := g } env L (.val (vU64 (UInt64.ofNat (p.toNat / 2 ^ (min m 64))))) :=
  q_shr_k hx hy (by
    have h1 := UInt64.toNat_lt p
    have h2 : p.toNat / 2 ^ (min m 64) < 2 ^ 64 := Nat.lt_of_le_of_lt (Nat.div_le_self _ _) h1
    simp only [IntKind.bits, UInt64.toNat_ofNat']
    rw [Nat.mod_eq_of_lt h2, Int.fdiv_eq_ediv_of_nonneg _ (by exact Int.le_of_lt (Int.pow_pos (by omega)))]
    norm_cast)

theorem q_quo_n {T T' : TypeId} {x y : Operand} {p q : Nat} (hx : evalE env x = some (.int .i64 (p : Int))) (hy : evalE env y = some (.int .i64 (q : Int))) (h1 : 0 < q) (h2 : p ≤ 9223372036854775807) :
    QT P n S w0 { dst := some d, op := .binOp .quo T x y T', type := ty, pos, after := af, guard := g } env L (.val (.int .i64 ((p / q : Nat) : Int))) :=
  q_bin hx hy fun w => by
    have h : ¬ ((q : Int) = 0) := by omega
    have h3 : ((p : Int).tdiv (q : Int)) = ((p / q : Nat) : Int) := by rw [Int.tdiv_eq_ediv_of_nonneg (by omega)]; norm_cast
    have h4 : p / q ≤ p := Nat.div_le_self _ _
    have h5 : IntKind.i64.wrap ((p / q : Nat) : Int) = ((p / q : Nat) : Int) := by
      generalize p / q = r at h4
      exact wi (by omega) (by omega)
    have hq : q ≠ 0 := by omega
    simp only [eqGuard, binOp, Op.intDiv, Sem.run_bind, h3, h5]
    simp [hq]
theorem q_rem_n {T T' : TypeId} {x y : Operand} {k : IntKind} {p q : Nat} (hx : evalE env x = some (.int k (p : Int))) (hy : evalE env y = some (.int k (q : Int))) (h1 : 0 < q) :
    QT P n S w0 { dst := some d, op := .binOp .rem T x y T', type := ty, pos, after := af, guard := g } env L (.val (.int k ((p % q : Nat) : Int))) :=
  q_bin hx hy fun w => by
    have h : ¬ ((q : Int) = 0) := by omega
    have h3 : ((p : Int).tmod (q : Int)) = ((p % q : Nat) : Int) := by rw [Int.tmod_eq_emod_of_nonneg (by omega)]; norm_cast
    have hq : q ≠ 0 := by omega
    simp only [eqGuard, binOp, Op.intDiv, Sem.run_bind, h3]
    simp [hq]

theorem q_lss_k {T T' : TypeId} {x y : Operand} {k : IntKind} {p q : Int} {kd : IntKind} (hT : P.underlying T = some (.int kd)) (hx : evalE env x = some (.int k p)) (hy : evalE env y = some (.int k q)) :
    QT P n S w0 { dst := some d, op := .binOp .lss T x y T', type := ty, pos, after := af, guard := g } env L (.val (.bool (decide (p < q)))) :=
  q_bin hx hy fun w => by simp [eqGuard, binOp, Op.intCmp, Op.equal, Op.maxDepth, Op.equalIn, run_underlying hT]
theorem q_lss_n {T T' : TypeId} {x y : Operand} {k : IntKind} {p q : Nat} {kd : IntKind} (hT : P.underlying T = some (.int kd)) (hx : evalE env x = some (.int k (p : Int))) (hy : evalE env y = some (.int k (q : Int))) :
    QT P n S w0 { dst := some d, op := .binOp .lss T x y T', type := ty, pos, after := af, guard := g } env L (.val (.bool (decide (p < q)))) := by
  have := q_lss_k (g := g) (d := d) (ty := ty) (pos := pos) (af := af) (n := n) (S := S) (w0 := w0) (L := L) (T' := T') hT hx hy
  simpa only [Int.ofNat_lt, Int.ofNat_le, Int.ofNat_inj] using this

theorem q_leq_k {T T' : TypeId} {x y : Operand} {k : IntKind} {p q : Int} {kd : IntKind} (hT : P.underlying T = some (.int kd)) (hx : evalE env x = some (.int k p)) (hy : evalE env y = some (.int k q)) :
    QT P n S w0 { dst := some d, op := .binOp .leq T x y T', type := ty, pos, after := af, guard := g } env L (.val (.bool (decide (p ≤ q)))) :=
  q_bin hx hy fun w => by simp [eqGuard, binOp, Op.intCmp, Op.equal, Op.maxDepth, Op.equalIn, run_underlying hT]
theorem q_leq_n {T T' : TypeId} {x y : Operand} {k : IntKind} {p q : Nat} {kd : IntKind} (hT : P.underlying T = some (.int kd)) (hx : evalE env x = some (.int k (p : Int))) (hy : evalE env y = some (.int k (q : Int))) :
    QT P n S w0 { dst := some d, op := .binOp .leq T x y T', type := ty, pos, after := af, guard := g } env L (.val (.bool (decide (p ≤ q)))) := by
  have := q_leq_k (g := g) (d := d) (ty := ty) (pos := pos) (af := af) (n := n) (S := S) (w0 := w0) (L := L) (T' := T') hT hx hy
  simpa only [Int.ofNat_lt, Int.ofNat_le, Int.ofNat_inj] using this

theorem q_gtr_k {T T' : TypeId} {x y : Operand} {k : IntKind} {p q : Int} {kd : IntKind} (hT : P.underlying T = some (.int kd)) (hx : evalE env x = some (.int k p)) (hy : evalE env y = some (.int k q)) :
    QT P n S w0 { dst := some d, op := .binOp .gtr T x y T', type := ty, pos, after := af, guard := g } env L (.val (.bool (decide (q < p)))) :=
  q_bin hx hy fun w => by simp [eqGuard, binOp, Op.intCmp, Op.equal, Op.maxDepth, Op.equalIn, run_underlying hT]
theorem q_gtr_n {T T' : TypeId} {x y : Operand} {k : IntKind} {p q : Nat} {kd : IntKind} (hT : P.underlying T = some (.int kd)) (hx : evalE env x = some (.int k (p : Int))) (hy : evalE env y = some (.int k (q : Int))) :
    QT P n S w0 { dst := some d, op := .binOp .gtr T x y T', type := ty, pos, after := af, guard := g } env L (.val (.bool (decide (q < p)))) := by
  have := q_gtr_k (g := g) (d := d) (ty := ty) (pos := pos) (af := af) (n := n) (S := S) (w0 := w0) (L := L) (T' := T') hT hx hy
  simpa only [Int.ofNat_lt, Int.ofNat_le, Int.ofNat_inj] using this

theorem q_geq_k {T T' : TypeId} {x y : Operand} {k : IntKind} {p q : Int} {kd : IntKind} (hT : P.underlying T = some (.int kd)) (hx : evalE env x = some (.int k p)) (hy : evalE env y = some (.int k q)) :
    QT P n S w0 { dst := some d, op := .binOp .geq T x y T', type := ty, pos, after := af, guard := g } env L (.val (.bool (decide (q ≤ p)))) :=
  q_bin hx hy fun w => by simp [eqGuard, binOp, Op.intCmp, Op.equal, Op.maxDepth, Op.equalIn, run_underlying hT]
theorem q_geq_n {T T' : TypeId} {x y : Operand} {k : IntKind} {p q : Nat} {kd : IntKind} (hT : P.underlying T = some (.int kd)) (hx : evalE env x = some (.int k (p : Int))) (hy : evalE env y = some (.int k (q : Int))) :
    QT P n S w0 { dst := some d, op := .binOp .geq T x y T', type := ty, pos, after := af, guard := g } env L (.val (.bool (decide (q ≤ p)))) := by
  have := q_geq_k (g := g) (d := d) (ty := ty) (pos := pos) (af := af) (n := n) (S := S) (w0 := w0) (L := L) (T' := T') hT hx hy
  simpa only [Int.ofNat_lt, Int.ofNat_le, Int.ofNat_inj] using this

theorem q_eql_k {T T' : TypeId} {x y : Operand} {k : IntKind} {p q : Int} {kd : IntKind} (hT : P.underlying T = some (.int kd)) (hx : evalE env x = some (.int k p)) (hy : evalE env y = some (.int k q)) :
    QT P n S w0 { dst := some d, op := .binOp .eql T x y T', type := ty, pos, after := af, guard := g } env L (.val (.bool (decide (p = q)))) :=
  q_bin hx hy fun w => by simp [eqGuard, binOp, Op.intCmp, Op.equal, Op.maxDepth, Op.equalIn, run_underlying hT, bne, Bool.beq_eq_decide_eq]
theorem q_eql_n {T T' : TypeId} {x y : Operand} {k : IntKind} {p q : Nat} {kd : IntKind} (hT : P.underlying T = some (.int kd)) (hx : evalE env x = some (.int k (p : Int))) (hy : evalE env y = some (.int k (q : Int))) :
    QT P n S w0 { dst := some d, op := .binOp .eql T x y T', type := ty, pos, after := af, guard := g } env L (.val (.bool (decide (p = q)))) := by
  have := q_eql_k (g := g) (d := d) (ty := ty) (pos := pos) (af := af) (n := n) (S := S) (w0 := w0) (L := L) (T' := T') hT hx hy
  simpa only [Int.ofNat_lt, Int.ofNat_le, Int.ofNat_inj] using this

theorem q_neq_k {T T' : TypeId} {x y : Operand} {k : IntKind} {p q : Int} {kd : IntKind} (hT : P.underlying T = some (.int kd)) (hx : evalE env x = some (.int k p)) (hy : evalE env y = some (.int k q)) :
    QT P n S w0 { dst := some d, op := .binOp .neq T x y T', type := ty, pos, after := af, guard := g } env L (.val (.bool (!decide (p = q)))) :=
  q_bin hx hy fun w => by simp [eqGuard, binOp, Op.intCmp, Op.equal, Op.maxDepth, Op.equalIn, run_underlying hT, bne, Bool.beq_eq_decide_eq]
theorem q_neq_n {T T' : TypeId} {x y : Operand} {k : IntKind} {p q : Nat} {kd : IntKind} (hT : P.underlying T = some (.int kd)) (hx : evalE env x = some (.int k (p : Int))) (hy : evalE env y = some (.int k (q : Int))) :
    QT P n S w0 { dst := some d, op := .binOp .neq T x y T', type := ty, pos, after := af, guard := g } env L (.val (.bool (!decide (p = q)))) := by
  have := q_neq_k (g := g) (d := d) (ty := ty) (pos := pos) (af := af) (n := n) (S := S) (w0 := w0) (L := L) (T' := T') hT hx hy
  simpa only [Int.ofNat_lt, Int.ofNat_le, Int.ofNat_inj] using this

theorem q_not {T : TypeId} {x : Operand} {t : Bool} (hx : evalE env x = some (.bool t)) : QT P n S w0 { dst := some d, op := .unOp .not T x, type := ty, pos, after := af, guard := g } env L (.val (.bool !t)) :=
  q_of rfl fun a w hm H => by simp [execOp, hm.eval hx, Op.unary]
theorem q_neg {T : TypeId} {x : Operand} {p : Int} (hx : evalE env x = some (.int .i64 p)) (h : -9223372036854775807 ≤ p) (h2 : p ≤ 9223372036854775807) : QT P n S w0 { dst := some d, op := .unOp .neg T x, type := ty, pos, after := af, guard := g } env L (.val (.int .i64 (-p))) :=
  q_of rfl fun a w hm H => by
    have e : IntKind.i64.wrap (-p) = -p := wi (by omega) (by omega)
    simp [execOp, hm.eval hx, Op.unary, Op.intArith, e]
theorem q_conv_k {src dst : TypeId} {ds : TypeDesc} {x : Operand} {k k' : IntKind} {p r : Int} (hs : P.underlying src = some ds) (hd : P.underlying dst = some (.int k)) (hx : evalE env x = some (.int k' p)) (hr : k.wrap p = r) :
    QT P n S w0 { dst := some d, op := .convert src dst x, type := ty, pos, after := af, guard := g } env L (.val (.int k r)) :=
  q_of rfl fun a w hm H => by simp [execOp, hm.eval hx, convert, run_underlying hs, run_underlying hd, Conv.intToInt, hr]
theorem q_conv_nn {src dst : TypeId} {ds : TypeDesc} {x : Operand} {k' : IntKind} {p : Nat} (hs : P.underlying src = some ds) (hd : P.underlying dst = some (.int .i64)) (hx : evalE env x = some (.int k' (p : Int))) (h : p ≤ 9223372036854775807) :
    QT P n S w0 { dst := some d, op := .convert src dst x, type := ty, pos, after := af, guard := g } env L (.val (.int .i64 (p : Int))) :=
  q_conv_k hs hd hx (wi (by omega) (by omega))

theorem q_conv_nu8 {src dst : TypeId} {ds : TypeDesc} {x : Operand} {k' : IntKind} {p : Nat} (hs : P.underlying src = some ds) (hd : P.underlying dst = some (.int .u8)) (hx : evalE env x = some (.int k' (p : Int))) :
    QT P n S w0 { dst := some d, op := .convert src dst x, type := ty, pos, after := af, guard := g } env L (.val (vU8 (UInt8.ofNat p))) :=
  q_conv_k hs hd hx (by
    simp only [IntKind.wrap, IntKind.bits, IntKind.signed, Bool.false_and, Bool.false_eq_true, if_false, UInt8.toNat_ofNat']
    norm_cast)

theorem q_conv_nu32 {src dst : TypeId} {ds : TypeDesc} {x : Operand} {k' : IntKind} {p : Nat} (hs : P.underlying src = some ds) (hd : P.underlying dst = some (.int .u32)) (hx : evalE env x = some (.int k' (p : Int))) :
    QT P n S w0 { dst := some d, op := .convert src dst x, type := ty, pos, after := af, guard := g } env L (.val (vU32 (UInt32.ofNat p))) :=
  q_conv_k hs hd hx (by
    simp only [IntKind.wrap, IntKind.bits, IntKind.signed, Bool.false_and, Bool.false_eq_true, if_false, UInt32.toNat_ofNat']
    norm_cast)

theorem q_conv_nu64 {src dst : TypeId} {ds : TypeDesc} {x : Operand} {k' : IntKind} {p : Nat} (hs : P.underlying src = some ds) (hd : P.underlying dst = some (.int .u64)) (hx : evalE env x = some (.int k' (p : Int))) :
    QT P n S w0 { dst := some d, op := .convert src dst x, type := ty, pos, after := af, guard := g } env L (.val (vU64 (UInt64.ofNat p))) :=
  q_conv_k hs hd hx (by
    simp only [IntKind.wrap, IntKind.bits, IntKind.signed, Bool.false_and, Bool.false_eq_true, if_false, UInt64.toNat_ofNat']
    norm_cast)

/-! ### memory that is read -/
/-- wherever these are owned, the cells vs lie there -/
def Reads (S : List Nat) (w0 : World) (L : List Res) (A : Option Addr) (vs : List Value) : Prop := ∀ w, St S w0 L w → SlAt w A vs
theorem Reads.blk {b : Nat} {T : TypeId} {c : List Value} (k : Nat) (hk : L[k]? = some (.blk b T c)) : Reads S w0 L (some ⟨b, 0, none⟩) c := fun w H => (H.blk hk).sl0
theorem Reads.blkAt {b : Nat} {T : TypeId} {c vs : List Value} (k o : Nat) (hk : L[k]? = some (.blk b T c)) (hv : c.drop o = vs) : Reads S w0 L (some ⟨b, o, none⟩) vs := fun w H => hv ▸ (H.blk hk).sl o
theorem Reads.blkTake {b : Nat} {T : TypeId} {c vs : List Value} (k o m : Nat) (hk : L[k]? = some (.blk b T c)) (hv : (c.drop o).take m = vs) : Reads S w0 L (some ⟨b, o, none⟩) vs := fun w H => hv ▸ ((H.blk hk).sl o).take m
theorem Reads.row {T : TypeId} {size m cap r : Nat} {A : Option Addr} {xs : List Value} (k : Nat) (hk : L[k]? = some (.row T size (.slice A m cap) r xs)) : Reads S w0 L A xs := fun w H => Row.sl (H.get hk)
theorem Reads.old {A : Option Addr} {vs : List Value} (h : SlAt w0 A vs) : Reads [] w0 L A vs := fun w H => H.sl0 h
theorem Reads.take {A : Option Addr} {vs us : List Value} (h : Reads S w0 L A vs) (m : Nat) (hu : vs.take m = us) : Reads S w0 L A us := fun w H => hu ▸ (h w H).take m
theorem Reads.nil {A : Option Addr} : Reads S w0 L A [] := fun w _ => SlAt.nil w A
/-- where a part of a slice begins -/
def adv (A : Option Addr) (l m sz : Nat) : Option Addr := if m = l then A else A.map (·.add (l * sz))
theorem Reads.adv {A : Option Addr} {vs us : List Value} {l m sz : Nat} (h : Reads S w0 L A vs) (hm : vs.length ≤ m * sz) (hu : vs.drop (l * sz) = us) : Reads S w0 L (PBYtngdppffcdhhlaa.adv A l m sz) us :=
  fun w H => hu ▸ (h w H).dropIf (fun e => by subst e; exact hm)
theorem adv_zero (A : Option Addr) (m sz : Nat) : adv A 0 m sz = A := by
  unfold adv
  split
  · rfl
  · cases A with
    | none => rfl
    | some a => simp [Addr.add]

/-- it is read at one place -/
theorem q_cell {t : TypeId} {dd : TypeDesc} {x : Operand} {ad : Addr} {v : Value} (hu : P.underlying t = some dd) (hd : (match dd with | .struct _ | .array _ _ => true | _ => false) = false) (hx : evalE env x = some (.pointer (some ad))) (hc : ∀ w, St S w0 L w → w.cell? ad = some v) :
    QT P n S w0 { dst := some d, op := .load t x, type := ty, pos, after := af, guard := g } env L (.val v) :=
  ⟨fun a w hm H => opw_load hu hd (hm.eval hx) (hc w H) ⟨v, rfl, fun h => by simp at h, rfl, St.refl w⟩⟩
theorem q_load {t : TypeId} {dd : TypeDesc} {x : Operand} {b j : Nat} {T : TypeId} {c : List Value} {v : Value} (k : Nat) (hu : P.underlying t = some dd) (hd : (match dd with | .struct _ | .array _ _ => true | _ => false) = false) (hx : evalE env x = some (vP b j)) (hk : L[k]? = some (.blk b T c)) (hc : c[j]? = some v) :
    QT P n S w0 { dst := some d, op := .load t x, type := ty, pos, after := af, guard := g } env L (.val v) :=
  q_cell hu hd hx fun w H => (H.cell hk j).trans hc
theorem q_loadR {t : TypeId} {dd : TypeDesc} {x : Operand} {ad : Addr} {j : Nat} {vs : List Value} {v : Value} (hu : P.underlying t = some dd) (hd : (match dd with | .struct _ | .array _ _ => true | _ => false) = false) (hx : evalE env x = some (.pointer (some (ad.add j)))) (hr : Reads S w0 L (some ad) vs) (hc : vs[j]? = some v) :
    QT P n S w0 { dst := some d, op := .load t x, type := ty, pos, after := af, guard := g } env L (.val v) :=
  q_cell hu hd hx fun w H => (hr w H).get hc
theorem q_loadsR {t : TypeId} {dd : TypeDesc} {x : Operand} {ad : Addr} {vs : List Value} (hu : P.underlying t = some dd) (hd : (match dd with | .struct _ | .array _ _ => true | _ => false) = true) (hi : (P.info? t).map (·.size) = some vs.length) (hx : evalE env x = some (.pointer (some ad))) (hr : Reads S w0 L (some ad) vs) :
    QT P n S w0 { dst := some d, op := .load t x, type := ty, pos, after := af, guard := g } env L (.val (.agg vs.toArray)) :=
  ⟨fun a w hm H => opw_loads hu hd hi (hm.eval hx) (hr w H) ⟨_, rfl, fun h => by simp at h, rfl, St.refl w⟩⟩
theorem q_loads {t : TypeId} {dd : TypeDesc} {x : Operand} {b sz : Nat} {T : TypeId} {c : List Value} (k : Nat) (hu : P.underlying t = some dd) (hd : (match dd with | .struct _ | .array _ _ => true | _ => false) = true) (hx : evalE env x = some (vP b 0)) (hk : L[k]? = some (.blk b T c)) (hi : (P.info? t).map (·.size) = some sz) (hl : c.length = sz) :
    QT P n S w0 { dst := some d, op := .load t x, type := ty, pos, after := af, guard := g } env L (.val (.agg c.toArray)) :=
  q_loadsR hu hd (by rw [hi, hl]) hx (Reads.blk k hk)
theorem q_loadsAt {t : TypeId} {dd : TypeDesc} {x : Operand} {b j sz : Nat} {T : TypeId} {c vs : List Value} (k : Nat) (hu : P.underlying t = some dd) (hd : (match dd with | .struct _ | .array _ _ => true | _ => false) = true) (hx : evalE env x = some (vP b j)) (hk : L[k]? = some (.blk b T c)) (hi : (P.info? t).map (·.size) = some sz) (hv : (c.drop j).take sz = vs) (hl : vs.length = sz) :
    QT P n S w0 { dst := some d, op := .load t x, type := ty, pos, after := af, guard := g } env L (.val (.agg vs.toArray)) :=
  q_loadsR hu hd (by rw [hi, hl]) hx (Reads.blkTake k j sz hk hv)

/-! ### new memory -/
def nBlk (e : TypeId) (c : List Value) (u : Value) : List Res := match u with | .pointer (some ⟨b, _, _⟩) => [.blk b e c] | _ => []
theorem q_box {e : TypeId} {x : Operand} {v : Value} {c : List Value} (hx : evalE env x = some v) (hc : v.cells.toList = c) :
    QT P n S w0 { dst := some d, op := .box e x, type := ty, pos, after := af, guard := g } env L (.any (fun u => ∃ b, u = vP b 0) (nBlk e c)) :=
  ⟨fun a w hm H => opw_box (St.refl w) (by rw [hm.eval hx]; exact hc) fun w' b H' => ⟨_, rfl, fun h => by simp at h, ⟨b, rfl⟩, H'⟩⟩
theorem q_alloc {e : TypeId} {z : Value} {c : List Value} (hi : (P.info? e).map (·.zero) = some (some z)) (hc : z.cells.toList = c) :
    QT P n S w0 { dst := some d, op := .alloc e, type := ty, pos, after := af, guard := g } env L (.any (fun u => ∃ b, u = vP b 0) (nBlk e c)) := by
  subst hc
  exact ⟨fun a w hm H => opw_allocZ (St.refl w) hi fun w' b H' => ⟨_, rfl, fun h => by simp at h, ⟨b, rfl⟩, H'⟩⟩
theorem l_box {e : TypeId} {x : Operand} {v : Value} {c : List Value} (hx : evalE env x = some v) (hc : v.cells.toList = c) (hd : dstOk n (some d) = true) (h : ∀ b, VL P n S w0 ops Q rest ((d, vP b 0) :: env) (.blk b e c :: L)) :
    VL P n S w0 ops Q ({ dst := some d, op := .box e x, type := ty, pos, after := af, guard := none } :: rest) env L :=
  vl_q (q_box hx hc) trivial hd (by rintro v ⟨b, rfl⟩; exact h b)
theorem l_alloc {e : TypeId} {z : Value} {c : List Value} (hi : (P.info? e).map (·.zero) = some (some z)) (hc : z.cells.toList = c) (hd : dstOk n (some d) = true) (h : ∀ b, VL P n S w0 ops Q rest ((d, vP b 0) :: env) (.blk b e c :: L)) :
    VL P n S w0 ops Q ({ dst := some d, op := .alloc e, type := ty, pos, after := af, guard := none } :: rest) env L :=
  vl_q (q_alloc hi hc) trivial hd (by rintro v ⟨b, rfl⟩; exact h b)
def nRow (e : TypeId) (size m : Nat) (xs : List Value) (u : Value) : List Res := [.row e size u m xs]
/-- make of m elements of one cell, as a block -/
def nMk (e : TypeId) (c : List Value) (u : Value) : List Res := match u with | .slice (some ⟨b, _, _⟩) _ _ => [.blk b e c] | _ => []
theorem q_make {t e : TypeId} {l c : Operand} {z : Value} {bytes m : Nat} {kl kc : IntKind} (hu : P.underlying t = some (.slice e)) (hi : (P.info? e).map (fun i => (i.zero, i.size, i.bytes)) = some (some z, 1, bytes)) (hz : z.oneCell' = true)
    (hl : evalE env l = some (.int kl (m : Int))) (hc : evalE env c = some (.int kc (m : Int))) (hb : bytes * m ≤ 281474976710656) (hm : m ≤ maxLen) :
    QT P n S w0 { dst := some d, op := .makeSlice t l c, type := ty, pos, after := af, guard := g } env L (.any (fun u => ∃ b, u = .slice (some ⟨b, 0, none⟩) m m) (nMk e (List.replicate m z))) :=
  ⟨fun a w hmo H => opw_make (St.refl w) hu hi hz (hmo.eval hl) (hmo.eval hc) hb hm fun w' b H' => ⟨_, rfl, fun h => by simp at h, ⟨b, rfl⟩, H'⟩⟩
theorem l_make {t e : TypeId} {l c : Operand} {z : Value} {bytes m : Nat} {kl kc : IntKind} (hu : P.underlying t = some (.slice e)) (hi : (P.info? e).map (fun i => (i.zero, i.size, i.bytes)) = some (some z, 1, bytes)) (hz : z.oneCell' = true)
    (hl : evalE env l = some (.int kl (m : Int))) (hc : evalE env c = some (.int kc (m : Int))) (hb : bytes * m ≤ 281474976710656) (hm : m ≤ maxLen) (hd : dstOk n (some d) = true)
    (h : ∀ b, VL P n S w0 ops Q rest ((d, .slice (some ⟨b, 0, none⟩) m m) :: env) (.blk b e (List.replicate m z) :: L)) :
    VL P n S w0 ops Q ({ dst := some d, op := .makeSlice t l c, type := ty, pos, after := af, guard := none } :: rest) env L :=
  vl_q (q_make hu hi hz hl hc hb hm) trivial hd (by rintro v ⟨b, rfl⟩; exact h b)
/-- make of no elements, with room -/
theorem q_room {t e : TypeId} {l c : Operand} {z : Value} {size bytes m : Nat} {kl kc : IntKind} (hu : P.underlying t = some (.slice e)) (hi : (P.info? e).map (fun i => (i.zero, i.size, i.bytes)) = some (some z, size, bytes))
    (hl : evalE env l = some (.int kl 0)) (hc : evalE env c = some (.int kc (m : Int))) (hb : bytes * m ≤ 281474976710656) (hm : m ≤ maxLen) :
    QT P n S w0 { dst := some d, op := .makeSlice t l c, type := ty, pos, after := af, guard := g } env L (.any (fun u => True) (nRow e size 0 [])) :=
  ⟨fun a w hmo H => opw_room (St.refl w) hu hi (hmo.eval hl) (hmo.eval hc) hb hm fun w' b H' => ⟨_, rfl, fun h => by simp at h, trivial, H'⟩⟩
theorem l_room {t e : TypeId} {l c : Operand} {z : Value} {size bytes m : Nat} {kl kc : IntKind} (hu : P.underlying t = some (.slice e)) (hi : (P.info? e).map (fun i => (i.zero, i.size, i.bytes)) = some (some z, size, bytes))
    (hl : evalE env l = some (.int kl 0)) (hc : evalE env c = some (.int kc (m : Int))) (hb : bytes * m ≤ 281474976710656) (hm : m ≤ maxLen) (hd : dstOk n (some d) = true)
    (h : ∀ v, VL P n S w0 ops Q rest ((d, v) :: env) (.row e size v 0 [] :: L)) :
    VL P n S w0 ops Q ({ dst := some d, op := .makeSlice t l c, type := ty, pos, after := af, guard := none } :: rest) env L :=
  vl_q (q_room hu hi hl hc hb hm) trivial hd (fun v _ => h v)
/-- a slice of elements of one cell that is written out -/
theorem q_lit {t e : TypeId} {m bytes : Nat} {pr : Array (Nat × Operand)} {z : Value} {ps : List (Nat × Value)} (hu : P.underlying t = some (.slice e)) (hi : (P.info? e).map (fun i => (i.zero, i.size, i.bytes)) = some (some z, 1, bytes)) (hsm : m ≤ 16777216) (hz : z.oneCell' = true)
    (hp : evalsE env (pr.toList.map (·.2)) = some (ps.map (·.2))) (hi2 : pr.toList.map (·.1) = ps.map (·.1)) (h1 : ∀ p ∈ ps, p.2.oneCell' = true ∧ p.1 < m) :
    QT P n S w0 { dst := some d, op := .buildSlice t m pr, type := ty, pos, after := af, guard := g } env L (.any (fun u => ∃ b, u = .slice (some ⟨b, 0, none⟩) m m) (nRow e 1 m (fillL (List.replicate m z) ps))) :=
  ⟨fun a w hmo H => opw_lit1 ps (St.refl w) hu hi hsm hz (by
    have h2 := hmo.evals hp
    rw [List.map_map] at h2
    have key : ∀ (l : List (Nat × Operand)) (q : List (Nat × Value)), l.map (a.eval ∘ fun x => x.2) = q.map (·.2) → l.map (·.1) = q.map (·.1) → (l.map fun p => (p.1, a.eval p.2)) = q := by
      intro l
      induction l with
      | nil => intro q h3 h4; cases q with | nil => rfl | cons y q => simp at h4
      | cons y l ih =>
        intro q h3 h4
        cases q with
        | nil => simp at h4
        | cons z q =>
          simp only [List.map_cons, List.cons.injEq, Function.comp] at h3 h4
          rw [List.map_cons, ih q h3.2 h4.2, h3.1, h4.1]
    exact key _ _ h2 hi2) h1 fun w' b H' => ⟨_, rfl, fun h => by simp at h, ⟨b, rfl⟩, H'⟩⟩
theorem l_lit {t e : TypeId} {m bytes : Nat} {pr : Array (Nat × Operand)} {z : Value} {ps : List (Nat × Value)} (hu : P.underlying t = some (.slice e)) (hi : (P.info? e).map (fun i => (i.zero, i.size, i.bytes)) = some (some z, 1, bytes)) (hsm : m ≤ 16777216) (hz : z.oneCell' = true)
    (hp : evalsE env (pr.toList.map (·.2)) = some (ps.map (·.2))) (hi2 : pr.toList.map (·.1) = ps.map (·.1)) (h1 : ∀ p ∈ ps, p.2.oneCell' = true ∧ p.1 < m) (hd : dstOk n (some d) = true)
    (h : ∀ b, VL P n S w0 ops Q rest ((d, .slice (some ⟨b, 0, none⟩) m m) :: env) (.row e 1 (.slice (some ⟨b, 0, none⟩) m m) m (fillL (List.replicate m z) ps) :: L)) :
    VL P n S w0 ops Q ({ dst := some d, op := .buildSlice t m pr, type := ty, pos, after := af, guard := none } :: rest) env L :=
  vl_q (q_lit hu hi hsm hz hp hi2 h1) trivial hd (by rintro v ⟨b, rfl⟩; exact h b)

/-! ### memory that is written -/
theorem vl_run (hg : Met ops env o.guard) (h : ∀ a w, Models n env a → St S w0 L w → o.wp P a w (wpList P ops (lift n S w0 Q) rest) (lift n S w0 Q)) : VL P n S w0 ops Q (o :: rest) env L := by
  refine ⟨fun a w hm H => ?_⟩
  unfold wpList
  rw [if_pos (hg.wanted hm)]
  exact .inl (h a w hm H)
theorem splice_set {c : List Value} {j : Nat} {v : Value} (h : j < c.length) : splice c j [v] = c.set j v := by
  rw [List.set_eq_take_append_cons_drop, if_pos h]
  simp [splice]
theorem l_store1 {t : TypeId} {x y : Operand} {b j : Nat} {T : TypeId} {c : List Value} {v : Value} (k : Nat) (hx : evalE env x = some (vP b j)) (hy : evalE env y = some v) (hk : L[k]? = some (.blk b T c)) (hi : (P.info? t).map (·.size) = some 1) (h1 : v.oneCell' = true) (hl : j < c.length)
    (h : VL P n S w0 ops Q rest env (L.set k (.blk b T (c.set j v)))) : VL P n S w0 ops Q ({ dst := none, op := .store t x y, type := ty, pos, after := af, guard := none } :: rest) env L :=
  vl_run trivial fun a w hm H => opw_store1 v H hk (hm.eval hx) (hm.eval hy) hi hl h1 fun w' H' => h.run _ w' hm (by rw [← splice_set hl]; exact H')
theorem l_storeAt {t : TypeId} {x y : Operand} {b j sz : Nat} {T : TypeId} {c vs : List Value} {v : Value} (k : Nat) (hx : evalE env x = some (vP b j)) (hy : evalE env y = some v) (hk : L[k]? = some (.blk b T c)) (hi : (P.info? t).map (·.size) = some sz) (hv : v.cells.toList = vs) (hs : vs.length = sz) (h1 : ∀ u ∈ vs, u.oneCell' = true) (hl : j + sz ≤ c.length)
    (h : VL P n S w0 ops Q rest env (L.set k (.blk b T (splice c j vs)))) : VL P n S w0 ops Q ({ dst := none, op := .store t x y, type := ty, pos, after := af, guard := none } :: rest) env L :=
  vl_run trivial fun a w hm H => opw_store H hk (hm.eval hx) (by rw [hm.eval hy]; exact hv) (by rw [hi, hs]) (by omega) h1 fun w' H' => h.run _ w' hm H'
theorem l_storeAll {t : TypeId} {x y : Operand} {b sz : Nat} {T : TypeId} {c vs : List Value} {v : Value} (k : Nat) (hx : evalE env x = some (vP b 0)) (hy : evalE env y = some v) (hk : L[k]? = some (.blk b T c)) (hi : (P.info? t).map (·.size) = some sz) (hv : v.cells.toList = vs) (hs : vs.length = sz) (h1 : ∀ u ∈ vs, u.oneCell' = true) (hl : c.length = sz)
    (h : VL P n S w0 ops Q rest env (L.set k (.blk b T vs))) : VL P n S w0 ops Q ({ dst := none, op := .store t x y, type := ty, pos, after := af, guard := none } :: rest) env L :=
  l_storeAt k hx hy hk hi hv hs h1 (by omega) (by rw [splice_all (by omega)]; exact h)

/-! ### places -/
def BndE (env : Env) : Option Operand → Nat → Nat → Prop
  | none, dflt, l => l = dflt
  | some y, _, l => ∃ k, evalE env y = some (.int k (l : Int))
theorem BndE.or {env : Env} {a : Act} (hm : Models n env a) {lo : Option Operand} {dflt l : Nat} (h : BndE env lo dflt l) : (lo = none ∧ l = dflt) ∨ ∃ k y, lo = some y ∧ a.eval y = .int k (l : Int) := by
  cases lo with
  | none => exact .inl ⟨rfl, h⟩
  | some y => obtain ⟨k, h⟩ := h; exact .inr ⟨k, y, rfl, hm.eval h⟩
theorem run_bnds {cap l h m : Nat} {w : World} {vl vh vm : Option Value} (fl : Bool) (len : Nat) (hq : vm = none ∨ vh.isSome = true) (hl : (vl = none ∧ l = 0) ∨ ∃ k, vl = some (.int k (l : Int))) (hh : (vh = none ∧ h = len) ∨ ∃ k, vh = some (.int k (h : Int))) (hm : (vm = none ∧ m = cap) ∨ ∃ k, vm = some (.int k (m : Int)))
    (h1 : l ≤ h) (h2 : h ≤ m) (h3 : m ≤ cap) : (Instr.sliceBounds fl len cap vl vh vm).run P w = .ok (l, h, m) w := by
  have hb : ∀ (k : IntKind) (i y : Nat) (code : BoundsCode), i ≤ y → (Instr.sliceBound (.int k (i : Int)) y code).run P w = .ok i w := fun k i y code hi => run_sliceBound_nat hi
  rcases hl with ⟨rfl, rfl⟩ | ⟨kl, rfl⟩ <;> rcases hh with ⟨rfl, rfl⟩ | ⟨kh, rfl⟩ <;> rcases hm with ⟨rfl, rfl⟩ | ⟨km, rfl⟩ <;>
    simp [Instr.sliceBounds, hb, h1, h2, h3] at hq ⊢
theorem BndE.opt {env : Env} {a : Act} (hm : Models n env a) {lo : Option Operand} {dflt l : Nat} (h : BndE env lo dflt l) : (lo.map a.eval = none ∧ l = dflt) ∨ ∃ k, lo.map a.eval = some (.int k (l : Int)) := by
  cases lo with
  | none => exact .inl ⟨rfl, h⟩
  | some y => obtain ⟨k, h⟩ := h; exact .inr ⟨k, by rw [Option.map_some, hm.eval h]⟩
/-- a part of an array -/
theorem q_slcA {t e : TypeId} {x : Operand} {lo hi mx : Option Operand} {len sz b o l h m r : Nat} (hu : P.underlying t = some (.array len e)) (hi' : (P.info? e).map (·.size) = some sz) (hx : evalE env x = some (vP b o)) (hlo : BndE env lo 0 l) (hhi : BndE env hi len h) (hmx : BndE env mx len m) (hmh : mx = none ∨ hi.isSome = true)
    (h1 : l ≤ h) (h2 : h ≤ m) (h3 : m ≤ len) (h4 : l < m ∨ l = 0) (hr : o + l * sz = r) : QT P n S w0 { dst := some d, op := .slice t x lo hi mx, type := ty, pos, after := af, guard := g } env L (.val (.slice (some ⟨b, r, none⟩) (h - l) (m - l))) :=
  q_of rfl fun a w hmo H => by
    cases hq : P.info? e with
    | none => simp [hq] at hi'
    | some i =>
      have hs : i.size = sz := by simpa [hq] using hi'
      have e1 : (Instr.sliceBounds false len len (lo.map a.eval) (hi.map a.eval) (mx.map a.eval)).run P w = .ok (l, h, m) w := run_bnds _ len (by rcases hmh with rfl | h <;> simp_all) (hlo.opt hmo) (hhi.opt hmo) (hmx.opt hmo) h1 h2 h3
      have e2 : (if m = l then (⟨b, o, none⟩ : Addr) else (⟨b, o, none⟩ : Addr).add (l * sz)) = ⟨b, r, none⟩ := by
        subst hr
        split
        · have : l = 0 := by omega
          subst this; simp
        · rw [Addr.add_lit]
      simp [execOp, Instr.sliceAt, run_underlying hu, hmo.eval hx, Instr.sureAddr, e1, sizeOf, typeInfo, hq, hs, e2]
/-- a part of a slice -/
theorem q_slcS {t e : TypeId} {x : Operand} {lo hi mx : Option Operand} {sz len cap l h m : Nat} {A : Option Addr} (hu : P.underlying t = some (.slice e)) (hi' : (P.info? e).map (·.size) = some sz) (hx : evalE env x = some (.slice A len cap)) (hlo : BndE env lo 0 l) (hhi : BndE env hi len h) (hmx : BndE env mx cap m) (hmh : mx = none ∨ hi.isSome = true)
    (h1 : l ≤ h) (h2 : h ≤ m) (h3 : m ≤ cap) : QT P n S w0 { dst := some d, op := .slice t x lo hi mx, type := ty, pos, after := af, guard := g } env L (.val (.slice (adv A l m sz) (h - l) (m - l))) :=
  q_of rfl fun a w hmo H => by
    cases hq : P.info? e with
    | none => simp [hq] at hi'
    | some i =>
      have hs : i.size = sz := by simpa [hq] using hi'
      have e1 : (Instr.sliceBounds true len cap (lo.map a.eval) (hi.map a.eval) (mx.map a.eval)).run P w = .ok (l, h, m) w := run_bnds _ len (by rcases hmh with rfl | h <;> simp_all) (hlo.opt hmo) (hhi.opt hmo) (hmx.opt hmo) h1 h2 h3
      simp [execOp, Instr.sliceAt, Instr.slice, run_underlying hu, hmo.eval hx, e1, sizeOf, typeInfo, hq, hs, adv]
/-- its beginning -/
theorem q_slcS0 {t e : TypeId} {x : Operand} {hi mx : Option Operand} {sz len cap h m : Nat} {A : Option Addr} (hu : P.underlying t = some (.slice e)) (hi' : (P.info? e).map (·.size) = some sz) (hx : evalE env x = some (.slice A len cap)) (hhi : BndE env hi len h) (hmx : BndE env mx cap m) (hmh : mx = none ∨ hi.isSome = true)
    (h2 : h ≤ m) (h3 : m ≤ cap) : QT P n S w0 { dst := some d, op := .slice t x none hi mx, type := ty, pos, after := af, guard := g } env L (.val (.slice A h m)) := by
  have := q_slcS (g := g) (d := d) (ty := ty) (pos := pos) (af := af) (n := n) (S := S) (w0 := w0) (L := L) (lo := none) (l := 0) hu hi' hx rfl hhi hmx hmh (Nat.zero_le _) h2 h3
  rwa [adv_zero, Nat.sub_zero, Nat.sub_zero] at this
/-- an element's place in an array -/
theorem q_idxA {t e : TypeId} {x y : Operand} {k : IntKind} {len sz b o m r : Nat} (hu : P.underlying t = some (.array len e)) (hi : (P.info? e).map (·.size) = some sz) (hx : evalE env x = some (vP b o)) (hy : evalE env y = some (.int k (m : Int))) (hm : m < len) (hr : o + m * sz = r) :
    QT P n S w0 { dst := some d, op := .indexAddr t x y, type := ty, pos, after := af, guard := g } env L (.val (vP b r)) :=
  q_of rfl fun a w hmo H => by
    cases hq : P.info? e with
    | none => simp [hq] at hi
    | some i =>
      have hs : i.size = sz := by simpa [hq] using hi
      subst hr
      have h1 : (0 : Int) ≤ (m : Int) ∧ (m : Int) < (len : Int) := by omega
      simp [execOp, Instr.indexAt, run_underlying hu, hmo.eval hx, hmo.eval hy, asIntOf, Instr.sureAddr, hm, sizeOf, typeInfo, hq, hs, Addr.add_lit]
/-- an element's place in a slice -/
theorem q_idxS {t e : TypeId} {x y : Operand} {k : IntKind} {len cap sz m : Nat} {ad : Addr} (hu : P.underlying t = some (.slice e)) (hi : (P.info? e).map (·.size) = some sz) (hx : evalE env x = some (.slice (some ad) len cap)) (hy : evalE env y = some (.int k (m : Int))) (hm : m < len) :
    QT P n S w0 { dst := some d, op := .indexAddr t x y, type := ty, pos, after := af, guard := g } env L (.val (.pointer (some (ad.add (m * sz))))) :=
  q_of rfl fun a w hmo H => by
    cases hq : P.info? e with
    | none => simp [hq] at hi
    | some i =>
      have hs : i.size = sz := by simpa [hq] using hi
      have h1 : (0 : Int) ≤ (m : Int) ∧ (m : Int) < (len : Int) := by omega
      simp [execOp, Instr.indexAt, run_underlying hu, hmo.eval hx, hmo.eval hy, asIntOf, hm, sizeOf, typeInfo, hq, hs]
theorem q_idxS1 {t e : TypeId} {x y : Operand} {k : IntKind} {len cap m : Nat} {ad : Addr} (hu : P.underlying t = some (.slice e)) (hi : (P.info? e).map (·.size) = some 1) (hx : evalE env x = some (.slice (some ad) len cap)) (hy : evalE env y = some (.int k (m : Int))) (hm : m < len) :
    QT P n S w0 { dst := some d, op := .indexAddr t x y, type := ty, pos, after := af, guard := g } env L (.val (.pointer (some (ad.add m)))) := by
  have := q_idxS (g := g) (d := d) (ty := ty) (pos := pos) (af := af) (n := n) (S := S) (w0 := w0) (L := L) hu hi hx hy hm
  rwa [Nat.mul_one] at this
theorem q_idxS0 {t e : TypeId} {x y : Operand} {k : IntKind} {len cap sz b o m r : Nat} (hu : P.underlying t = some (.slice e)) (hi : (P.info? e).map (·.size) = some sz) (hx : evalE env x = some (.slice (some ⟨b, o, none⟩) len cap)) (hy : evalE env y = some (.int k (m : Int))) (hm : m < len) (hr : o + m * sz = r) :
    QT P n S w0 { dst := some d, op := .indexAddr t x y, type := ty, pos, after := af, guard := g } env L (.val (vP b r)) := by
  have := q_idxS (g := g) (d := d) (ty := ty) (pos := pos) (af := af) (n := n) (S := S) (w0 := w0) (L := L) hu hi hx hy hm
  rwa [Addr.add_lit, hr] at this
/-- where a field lies -/
def fieldOff (P : Program) (s : TypeId) (f : Nat) : Option (Nat × Nat) :=
  match P.underlying s with
  | some (.struct fs) => match fs[f]? with
    | some fd => match P.info? fd.type with
      | some i => some (fd.offset, i.size)
      | none => none
    | none => none
  | _ => none
theorem fieldOff_spec {s : TypeId} {f off sz : Nat} (h : fieldOff P s f = some (off, sz)) : ∃ fs fd i, P.underlying s = some (.struct fs) ∧ fs[f]? = some fd ∧ P.info? fd.type = some i ∧ fd.offset = off ∧ i.size = sz := by
  unfold fieldOff at h
  split at h
  · rename_i fs hu
    split at h
    · rename_i fd hf
      split at h
      · rename_i i hi
        simp only [Option.some.injEq, Prod.mk.injEq] at h
        exact ⟨fs, fd, i, hu, hf, hi, h.1, h.2⟩
      · simp at h
    · simp at h
  · simp at h
theorem q_fldA {s : TypeId} {x : Operand} {f off sz b o r : Nat} (hf : fieldOff P s f = some (off, sz)) (hz : sz ≠ 0) (hx : evalE env x = some (vP b o)) (hr : o + off = r) :
    QT P n S w0 { dst := some d, op := .fieldAddr s x f, type := ty, pos, after := af, guard := g } env L (.val (vP b r)) :=
  q_of rfl fun a w hmo H => by
    obtain ⟨fs, fd, i, hu, hfd, hi, rfl, rfl⟩ := fieldOff_spec hf
    subst hr
    simp [execOp, Instr.fieldAt, run_underlying hu, hfd, hmo.eval hx, Instr.sureAddr, fieldPlace, sizeOf, typeInfo, hi, hz, Addr.add_lit]
/-- .. at an address that nobody knows -/
theorem q_fldAd {s : TypeId} {x : Operand} {f off sz : Nat} {ad : Addr} (hf : fieldOff P s f = some (off, sz)) (hz : sz ≠ 0) (hx : evalE env x = some (.pointer (some ad))) :
    QT P n S w0 { dst := some d, op := .fieldAddr s x f, type := ty, pos, after := af, guard := g } env L (.val (.pointer (some (ad.add off)))) :=
  q_of rfl fun a w hmo H => by
    obtain ⟨fs, fd, i, hu, hfd, hi, rfl, rfl⟩ := fieldOff_spec hf
    simp [execOp, Instr.fieldAt, run_underlying hu, hfd, hmo.eval hx, Instr.sureAddr, fieldPlace, sizeOf, typeInfo, hi, hz]
theorem q_nilck {x : Operand} {ad : Addr} (hx : evalE env x = some (.pointer (some ad))) : QT P n S w0 { dst := some d, op := .nilCheck x, type := ty, pos, after := af, guard := g } env L (.val (.pointer (some ad))) :=
  q_of rfl fun a w hm H => by simp [execOp, hm.eval hx]

/-! ### parts of values -/
theorem q_ext {x : Operand} {vs : Array Value} {i : Nat} {v : Value} (hx : evalE env x = some (.tuple vs)) (hi : vs[i]? = some v) : QT P n S w0 { dst := some d, op := .extract x i, type := ty, pos, after := af, guard := g } env L (.val v) :=
  q_of rfl fun a w hm H => by simp [execOp, hm.eval hx, Instr.extract, hi]
theorem run_part1 {t : TypeId} {dd : TypeDesc} {cs : Array Value} {off : Nat} {v : Value} (hu : P.underlying t = some dd) (hd : (match dd with | .struct _ | .array _ _ => true | _ => false) = false) (h : cs[off]? = some v) (w : World) : (part t cs off).run P w = .ok v w := by
  have hagg : (isAgg t).run P w = .ok false w := by
    unfold isAgg
    rw [Sem.run_bind, run_underlying hu w]
    cases dd <;> simp_all
  simp [part, hagg, h]
theorem run_partA {t : TypeId} {dd : TypeDesc} {cs : Array Value} {off sz : Nat} {vs : List Value} (hu : P.underlying t = some dd) (hd : (match dd with | .struct _ | .array _ _ => true | _ => false) = true) (hi : (P.info? t).map (·.size) = some sz) (h : (cs.toList.drop off).take sz = vs) (w : World) : (part t cs off).run P w = .ok (.agg vs.toArray) w := by
  have hagg : (isAgg t).run P w = .ok true w := by
    unfold isAgg
    rw [Sem.run_bind, run_underlying hu w]
    cases dd <;> simp_all
  cases hq : P.info? t with
  | none => simp [hq] at hi
  | some i =>
    have hs : i.size = sz := by simpa [hq] using hi
    subst h
    simp [part, hagg, sizeOf, typeInfo, hq, hs]
    apply Array.ext'
    simp [List.drop_take]
theorem q_idxV {t e : TypeId} {dd : TypeDesc} {x y : Operand} {k : IntKind} {len m : Nat} {cs : Array Value} {v : Value} (hu : P.underlying t = some (.array len e)) (he : P.underlying e = some dd) (hd : (match dd with | .struct _ | .array _ _ => true | _ => false) = false) (hi : (P.info? e).map (·.size) = some 1)
    (hx : evalE env x = some (.agg cs)) (hy : evalE env y = some (.int k (m : Int))) (hm : m < len) (hv : cs[m]? = some v) : QT P n S w0 { dst := some d, op := .index t x y, type := ty, pos, after := af, guard := g } env L (.val v) :=
  q_of rfl fun a w hmo H => by
    cases hq : P.info? e with
    | none => simp [hq] at hi
    | some i =>
      have hs : i.size = 1 := by simpa [hq] using hi
      have h1 : (0 : Int) ≤ (m : Int) ∧ (m : Int) < (len : Int) := by omega
      have hp := run_part1 (P := P) he hd hv w
      simp [execOp, Instr.index, run_underlying hu, hmo.eval hx, hmo.eval hy, asIntOf, hm, sizeOf, typeInfo, hq, hs, hp]
theorem q_idxVA {t e : TypeId} {dd : TypeDesc} {x y : Operand} {k : IntKind} {len m sz : Nat} {cs : Array Value} {vs : List Value} (hu : P.underlying t = some (.array len e)) (he : P.underlying e = some dd) (hd : (match dd with | .struct _ | .array _ _ => true | _ => false) = true) (hi : (P.info? e).map (·.size) = some sz)
    (hx : evalE env x = some (.agg cs)) (hy : evalE env y = some (.int k (m : Int))) (hm : m < len) (hv : (cs.toList.drop (m * sz)).take sz = vs) : QT P n S w0 { dst := some d, op := .index t x y, type := ty, pos, after := af, guard := g } env L (.val (.agg vs.toArray)) :=
  q_of rfl fun a w hmo H => by
    have hp := run_partA (P := P) he hd hi hv w
    cases hq : P.info? e with
    | none => simp [hq] at hi
    | some i =>
      have hs : i.size = sz := by simpa [hq] using hi
      have h1 : (0 : Int) ≤ (m : Int) ∧ (m : Int) < (len : Int) := by omega
      simp [execOp, Instr.index, run_underlying hu, hmo.eval hx, hmo.eval hy, asIntOf, hm, sizeOf, typeInfo, hq, hs, hp]
def fieldTy (P : Program) (s : TypeId) (f : Nat) : Option (TypeId × Nat) :=
  match P.underlying s with
  | some (.struct fs) => (fs[f]?).map fun fd => (fd.type, fd.offset)
  | _ => none
theorem fieldTy_spec {s : TypeId} {f : Nat} {T : TypeId} {off : Nat} (h : fieldTy P s f = some (T, off)) : ∃ fs fd, P.underlying s = some (.struct fs) ∧ fs[f]? = some fd ∧ fd.type = T ∧ fd.offset = off := by
  unfold fieldTy at h
  split at h
  · rename_i fs hu
    cases hf : fs[f]? with
    | none => rw [hf] at h; simp at h
    | some fd =>
      rw [hf] at h
      simp only [Option.map_some, Option.some.injEq, Prod.mk.injEq] at h
      exact ⟨fs, fd, hu, hf, h.1, h.2⟩
  · simp at h
theorem q_fldV {s T : TypeId} {x : Operand} {dd : TypeDesc} {f off : Nat} {cs : Array Value} {v : Value} (hf : fieldTy P s f = some (T, off)) (hT : P.underlying T = some dd) (hd : (match dd with | .struct _ | .array _ _ => true | _ => false) = false) (hx : evalE env x = some (.agg cs)) (hv : cs[off]? = some v) :
    QT P n S w0 { dst := some d, op := .field s x f, type := ty, pos, after := af, guard := g } env L (.val v) :=
  q_of rfl fun a w hmo H => by
    obtain ⟨fs, fd, hu, hfd, rfl, rfl⟩ := fieldTy_spec hf
    have hp := run_part1 (P := P) hT hd hv w
    simp [execOp, Instr.field, run_underlying hu, hmo.eval hx, hfd, asAgg, hp]
theorem q_fldVA {s T : TypeId} {x : Operand} {dd : TypeDesc} {f off sz : Nat} {cs : Array Value} {vs : List Value} (hf : fieldTy P s f = some (T, off)) (hT : P.underlying T = some dd) (hd : (match dd with | .struct _ | .array _ _ => true | _ => false) = true) (hi : (P.info? T).map (·.size) = some sz) (hx : evalE env x = some (.agg cs)) (hv : (cs.toList.drop off).take sz = vs) :
    QT P n S w0 { dst := some d, op := .field s x f, type := ty, pos, after := af, guard := g } env L (.val (.agg vs.toArray)) :=
  q_of rfl fun a w hmo H => by
    obtain ⟨fs, fd, hu, hfd, rfl, rfl⟩ := fieldTy_spec hf
    have hp := run_partA (P := P) hT hd hi hv w
    simp [execOp, Instr.field, run_underlying hu, hmo.eval hx, hfd, asAgg, hp]
theorem q_build {t : TypeId} {pr : Array (Nat × Operand)} {c' : List Value} {vs : List Value} (hp : evalsE env (pr.toList.map (·.2)) = some vs) (hb : P.built t ((pr.toList.map (·.1)).zip vs) = some c'.toArray) :
    QT P n S w0 { dst := some d, op := .build t pr, type := ty, pos, after := af, guard := g } env L (.val (.agg c'.toArray)) :=
  ⟨fun a w hm H => opw_build _ rfl (by
    have h2 := hm.evals hp
    rw [List.map_map] at h2
    rw [← h2] at hb
    have key : ∀ (l : List (Nat × Operand)), (l.map (·.1)).zip (l.map (a.eval ∘ fun x => x.2)) = l.map fun p => (p.1, a.eval p.2) := by
      intro l
      induction l with
      | nil => rfl
      | cons y l ih => simp only [List.map_cons, List.zip_cons_cons, ih, Function.comp]
    rw [key] at hb
    exact hb) ⟨_, rfl, fun h => by simp at h, rfl, St.refl w⟩⟩

/-! ### builtins -/
theorem q_lenS {t e : TypeId} {x : Operand} {A : Option Addr} {len cap : Nat} (hu : P.underlying t = some (.slice e)) (hx : evalE env x = some (.slice A len cap)) :
    QT P n S w0 { dst := some d, op := .call { callee := .builtin .len, args := #[x], argTypes := #[t] }, type := ty, pos, after := af, guard := g } env L (.val (vN len)) :=
  q_of rfl fun a w hm H => by simp [execOp, resolve, invoke, builtin, Builtin.len_, run_underlying hu, hm.eval hx, goInt]
theorem q_lenStr {t : TypeId} {x : Operand} {s : ByteArray} (hu : P.underlying t = some .string) (hx : evalE env x = some (.string s)) :
    QT P n S w0 { dst := some d, op := .call { callee := .builtin .len, args := #[x], argTypes := #[t] }, type := ty, pos, after := af, guard := g } env L (.val (vN s.size)) :=
  q_of rfl fun a w hm H => by simp [execOp, resolve, invoke, builtin, Builtin.len_, run_underlying hu, hm.eval hx, goInt]
theorem q_min {ats : Array TypeId} {x y : Operand} {k : IntKind} {p q : Nat} (hx : evalE env x = some (.int k (p : Int))) (hy : evalE env y = some (.int k (q : Int))) :
    QT P n S w0 { dst := some d, op := .call { callee := .builtin .min, args := #[x, y], argTypes := ats }, type := ty, pos, after := af, guard := g } env L (.val (.int k ((min p q : Nat) : Int))) :=
  q_of rfl fun a w hm H => by
    have e : (if (q : Int) < (p : Int) then (q : Int) else (p : Int)) = ((min p q : Nat) : Int) := by split <;> omega
    simp [execOp, resolve, invoke, builtin, Builtin.min_, Builtin.min2, hm.eval hx, hm.eval hy]
    omega
theorem q_max {ats : Array TypeId} {x y : Operand} {k : IntKind} {p q : Nat} (hx : evalE env x = some (.int k (p : Int))) (hy : evalE env y = some (.int k (q : Int))) :
    QT P n S w0 { dst := some d, op := .call { callee := .builtin .max, args := #[x, y], argTypes := ats }, type := ty, pos, after := af, guard := g } env L (.val (.int k ((max p q : Nat) : Int))) :=
  q_of rfl fun a w hm H => by
    simp [execOp, resolve, invoke, builtin, Builtin.max_, Builtin.max2, hm.eval hx, hm.eval hy]
    omega
theorem q_minI {ats : Array TypeId} {x y : Operand} {k : IntKind} {p q : Int} (hx : evalE env x = some (.int k p)) (hy : evalE env y = some (.int k q)) :
    QT P n S w0 { dst := some d, op := .call { callee := .builtin .min, args := #[x, y], argTypes := ats }, type := ty, pos, after := af, guard := g } env L (.val (.int k (min p q))) :=
  q_of rfl fun a w hm H => by
    simp [execOp, resolve, invoke, builtin, Builtin.min_, Builtin.min2, hm.eval hx, hm.eval hy]
    omega
theorem q_maxI {ats : Array TypeId} {x y : Operand} {k : IntKind} {p q : Int} (hx : evalE env x = some (.int k p)) (hy : evalE env y = some (.int k q)) :
    QT P n S w0 { dst := some d, op := .call { callee := .builtin .max, args := #[x, y], argTypes := ats }, type := ty, pos, after := af, guard := g } env L (.val (.int k (max p q))) :=
  q_of rfl fun a w hm H => by
    simp [execOp, resolve, invoke, builtin, Builtin.max_, Builtin.max2, hm.eval hx, hm.eval hy]
    omega
theorem q_str {src dst e : TypeId} {x : Operand} {A : Option Addr} {len cap : Nat} {l : List UInt8} (hs : P.underlying src = some (.slice e)) (he : P.underlying e = some (.int .u8)) (hd : P.underlying dst = some .string) (hx : evalE env x = some (.slice A len cap)) (hr : Reads S w0 L A (bys l)) (hl : len = l.length) :
    QT P n S w0 { dst := some d, op := .convert src dst x, type := ty, pos, after := af, guard := g } env L (.val (.string ⟨l.toArray⟩)) :=
  ⟨fun a w hm H => opw_str hs he hd (hm.eval hx) (hr w H) hl ⟨_, rfl, fun h => by simp at h, rfl, St.refl w⟩⟩

/-! ### calls -/
theorem q_call {f : FuncId} {fn : Func} {xs : Array Operand} {ats : Array TypeId} {args : List Value} {s : Sp} (hf : P.funcs[f]? = some fn) (hb : fn.body.isSome = true) (hn : (fn.name == "runtime.NumGoroutine") = false) (hx : evalsE env xs.toList = some args)
    (hc : ∀ w, St S w0 L w → Calls P f args.toArray w (fun e w' => ∃ v, e = .returned v ∧ s.fact v ∧ St [] w (s.res v) w')) :
    QT P n S w0 { dst := some d, op := .call { callee := .value (.func f), args := xs, argTypes := ats }, type := ty, pos, after := af, guard := g } env L s :=
  ⟨fun a w hm H => opw_call args hf hb hn (hm.evals hx) ((hc w H).mono fun e w' ⟨v, h1, h2, h3⟩ => ⟨v, h1, v, rfl, fun h => by simp at h, h2, h3⟩)⟩
/-- a call that tells a value, and leaves the rest -/
theorem q_callV {f : FuncId} {fn : Func} {xs : Array Operand} {ats : Array TypeId} {args : List Value} {v : Value} (hf : P.funcs[f]? = some fn) (hb : fn.body.isSome = true) (hn : (fn.name == "runtime.NumGoroutine") = false) (hx : evalsE env xs.toList = some args)
    (hc : ∀ w, St S w0 L w → Calls P f args.toArray w (fun e w' => e = .returned v ∧ Kept [] w w')) :
    QT P n S w0 { dst := some d, op := .call { callee := .value (.func f), args := xs, argTypes := ats }, type := ty, pos, after := af, guard := g } env L (.val v) :=
  q_call (s := .val v) hf hb hn hx fun w H => (hc w H).mono fun e w' ⟨h1, h2⟩ => ⟨v, h1, rfl, (St.refl w).keep h2⟩
/-- a call that writes -/
theorem l_call {f : FuncId} {fn : Func} {xs : Array Operand} {ats : Array TypeId} {args : List Value} {F : Value → List Res → Prop} (hf : P.funcs[f]? = some fn) (hb : fn.body.isSome = true) (hn : (fn.name == "runtime.NumGoroutine") = false) (hx : evalsE env xs.toList = some args)
    (hc : ∀ w, St S w0 L w → Calls P f args.toArray w (fun e w' => ∃ v L', e = .returned v ∧ F v L' ∧ St S w0 L' w')) (hd : dstOk n (some d) = true) (h : ∀ v L', F v L' → VL P n S w0 ops Q rest ((d, v) :: env) L') :
    VL P n S w0 ops Q ({ dst := some d, op := .call { callee := .value (.func f), args := xs, argTypes := ats }, type := ty, pos, after := af, guard := none } :: rest) env L :=
  vl_run trivial fun a w hm H => opw_call args hf hb hn (hm.evals hx) ((hc w H).mono fun e w' ⟨v, L', h1, h2, h3⟩ => ⟨v, h1, (h v L' h2).run _ w' (hm.put hd v) h3⟩)
/-- append of a slice -/
theorem l_append {t tx e : TypeId} {s x : Operand} {z : Value} {size bytes p m cx : Nat} {v : Value} {xs news : List Value} {A : Option Addr} (k : Nat) (hs : evalE env s = some v) (hx : evalE env x = some (.slice A m cx)) (hk : L[k]? = some (.row e size v p xs)) (hu : P.underlying t = some (.slice e)) (htx : P.underlying tx = some (.slice e))
    (hi : (P.info? e).map (fun i => (i.zero, i.size, i.bytes)) = some (some z, size, bytes)) (hzs : z.cells.size = size) (hb1 : bytes ≤ 1099511627776) (hA : Reads S w0 L A news) (hl : news.length = m * size) (h1 : ∀ u ∈ news, u.oneCell' = true)
    (hbytes : (p + m) * bytes ≤ 70368744177664) (hmax : p + m ≤ 70368744177664) (hd : dstOk n (some d) = true) (h : ∀ B c, p + m ≤ c → VL P n S w0 ops Q rest ((d, .slice B (p + m) c) :: env) (L.set k (.row e size (.slice B (p + m) c) (p + m) (xs ++ news)))) :
    VL P n S w0 ops Q ({ dst := some d, op := .call { callee := .builtin .append, args := #[s, x], argTypes := #[t, tx] }, type := ty, pos, after := af, guard := none } :: rest) env L :=
  vl_run trivial fun a w hm H => opw_append H hk hu htx hi hzs hb1 (hm.eval hs) (hm.eval hx) (hA w H) hl h1 hbytes hmax fun w' v' H' => by
    have hkl : k < L.length := (List.getElem?_eq_some_iff.1 hk).1
    have hrow : Res.ok w' (.row e size v' (p + m) (xs ++ news)) := H'.get (k := k) (by simp [hkl])
    obtain ⟨B, c, rfl, hc, _, _⟩ := Row.slice hrow
    exact (h B c hc).run _ w' (hm.put hd _) H'
/-- nothing yet, as a row -/
theorem VC_nilRow {c : Code} (T : TypeId) (size : Nat) (h : VC P n S w0 c Q env (.row T size (.slice none 0 0) 0 [] :: L)) : VC P n S w0 c Q env L :=
  ⟨fun a w hm H => h.run a w hm ((H.addNil T size).perm List.perm_append_comm)⟩
theorem VL_nilRow {l : List Oper} (T : TypeId) (size : Nat) (h : VL P n S w0 ops Q l env (.row T size (.slice none 0 0) 0 [] :: L)) : VL P n S w0 ops Q l env L :=
  ⟨fun a w hm H => h.run a w hm ((H.addNil T size).perm List.perm_append_comm)⟩

/-! ### where a walk stands -/
theorem th_n {K : Env → List Res → Prop} (h : K env L) : QThen K Q .normal env L := h
theorem th_x {K : Env → List Res → Prop} {i : Nat} (h : Q (.exit i) env L) : QThen K Q (.exit i) env L := h
theorem th_r {K : Env → List Res → Prop} (h : Q .ret env L) : QThen K Q .ret env L := h
theorem th_p {K : Env → List Res → Prop} {ch : List PanicEntry} (h : Q (.panic ch) env L) : QThen K Q (.panic ch) env L := h
theorem bl_n {i : Nat} (h : Q .normal env L) : QBlock i Q .normal env L := h
theorem bl_r {i : Nat} (h : Q .ret env L) : QBlock i Q .ret env L := h
theorem bl_p {i : Nat} {ch : List PanicEntry} (h : Q (.panic ch) env L) : QBlock i Q (.panic ch) env L := h
theorem bl_xs {i : Nat} (h : Q .normal env L) : QBlock i Q (.exit i) env L := by show (if i = i then _ else _); rw [if_pos rfl]; exact h
theorem bl_xo {i j : Nat} (hne : Nat.beq j i = false) (h : Q (.exit j) env L) : QBlock i Q (.exit j) env L := by show (if j = i then _ else _); rw [if_neg (Nat.ne_of_beq_eq_false hne)]; exact h
theorem qn_n (h : Q .normal env L) : QN Q .normal env L := h
theorem VL_noRes {l : List Oper} {N : List Res} (hN : N = []) (h : VL P n S w0 ops Q l env L) : VL P n S w0 ops Q l env (N ++ L) := by subst hN; exact h
theorem VL.keep {l : List Oper} {env' : Env} (he : Sub env env') (h : VL P n S w0 ops Q l env' L) : VL P n S w0 ops Q l env L := h.sub he fun _ H => H
theorem VC.keep {c : Code} {env' : Env} (he : Sub env env') (h : VC P n S w0 c Q env' L) : VC P n S w0 c Q env L := VC_sub h he fun _ H => H
theorem u8_lit (k : Nat) : vU8 (UInt8.ofNat k) = vU8 (UInt8.ofNat k) := rfl

/-! ### rows of numbers -/
def u32s (l : List UInt32) : List Value := l.map vU32
def u64s (l : List UInt64) : List Value := l.map vU64
def i64s (l : List Int) : List Value := l.map vI
theorem u32s_append (l m : List UInt32) : u32s (l ++ m) = u32s l ++ u32s m := by simp [u32s]
theorem u64s_append (l m : List UInt64) : u64s (l ++ m) = u64s l ++ u64s m := by simp [u64s]
theorem i64s_append (l m : List Int) : i64s (l ++ m) = i64s l ++ i64s m := by simp [i64s]
theorem u32s_length (l : List UInt32) : (u32s l).length = l.length := by simp [u32s]
theorem u64s_length (l : List UInt64) : (u64s l).length = l.length := by simp [u64s]
theorem i64s_length (l : List Int) : (i64s l).length = l.length := by simp [i64s]
theorem bys_at {l : List UInt8} {j : Nat} (h : j < l.length) : (bys l)[j]? = some (vU8 (l.getD j 0)) := by simp [bys, h]
theorem u32s_at {l : List UInt32} {j : Nat} (h : j < l.length) : (u32s l)[j]? = some (vU32 (l.getD j 0)) := by simp [u32s, h]
theorem u64s_at {l : List UInt64} {j : Nat} (h : j < l.length) : (u64s l)[j]? = some (vU64 (l.getD j 0)) := by simp [u64s, h]
theorem i64s_at {l : List Int} {j : Nat} (h : j < l.length) : (i64s l)[j]? = some (vI (l.getD j 0)) := by simp [i64s, h]
theorem bys_set (l : List UInt8) (j : Nat) (x : UInt8) : (bys l).set j (vU8 x) = bys (l.set j x) := by simp [bys, List.map_set]
theorem u32s_set (l : List UInt32) (j : Nat) (x : UInt32) : (u32s l).set j (vU32 x) = u32s (l.set j x) := by simp [u32s, List.map_set]
theorem u64s_set (l : List UInt64) (j : Nat) (x : UInt64) : (u64s l).set j (vU64 x) = u64s (l.set j x) := by simp [u64s, List.map_set]
theorem i64s_set (l : List Int) (j : Nat) (x : Int) : (i64s l).set j (vI x) = i64s (l.set j x) := by simp [i64s, List.map_set]
theorem u32s_one (l : List UInt32) : ∀ v ∈ u32s l, v.oneCell' = true := by
  intro v hv; obtain ⟨x, _, rfl⟩ := List.mem_map.1 hv; rfl
theorem u64s_one (l : List UInt64) : ∀ v ∈ u64s l, v.oneCell' = true := by
  intro v hv; obtain ⟨x, _, rfl⟩ := List.mem_map.1 hv; rfl
theorem i64s_one (l : List Int) : ∀ v ∈ i64s l, v.oneCell' = true := by
  intro v hv; obtain ⟨x, _, rfl⟩ := List.mem_map.1 hv; rfl
theorem app_one {c d : List Value} (h : ∀ v ∈ c, v.oneCell' = true) (h' : ∀ v ∈ d, v.oneCell' = true) : ∀ v ∈ c ++ d, v.oneCell' = true := by
  intro v hv
  rcases List.mem_append.1 hv with h1 | h1
  · exact h v h1
  · exact h' v h1
/-- a number is stored in such a row: the row -/
theorem l_stB {t : TypeId} {x y : Operand} {b j : Nat} {T : TypeId} {l : List UInt8} {v : UInt8} (k : Nat) (hx : evalE env x = some (vP b j)) (hy : evalE env y = some (vU8 v)) (hk : L[k]? = some (.blk b T (bys l))) (hi : (P.info? t).map (·.size) = some 1) (hl : j < l.length)
    (h : VL P n S w0 ops Q rest env (L.set k (.blk b T (bys (l.set j v))))) : VL P n S w0 ops Q ({ dst := none, op := .store t x y, type := ty, pos, after := af, guard := none } :: rest) env L :=
  l_store1 k hx hy hk hi rfl (by rw [bys_length]; exact hl) (by rw [bys_set]; exact h)
theorem l_stU32 {t : TypeId} {x y : Operand} {b j : Nat} {T : TypeId} {l : List UInt32} {v : UInt32} (k : Nat) (hx : evalE env x = some (vP b j)) (hy : evalE env y = some (vU32 v)) (hk : L[k]? = some (.blk b T (u32s l))) (hi : (P.info? t).map (·.size) = some 1) (hl : j < l.length)
    (h : VL P n S w0 ops Q rest env (L.set k (.blk b T (u32s (l.set j v))))) : VL P n S w0 ops Q ({ dst := none, op := .store t x y, type := ty, pos, after := af, guard := none } :: rest) env L :=
  l_store1 k hx hy hk hi rfl (by rw [u32s_length]; exact hl) (by rw [u32s_set]; exact h)
theorem l_stU64 {t : TypeId} {x y : Operand} {b j : Nat} {T : TypeId} {l : List UInt64} {v : UInt64} (k : Nat) (hx : evalE env x = some (vP b j)) (hy : evalE env y = some (vU64 v)) (hk : L[k]? = some (.blk b T (u64s l))) (hi : (P.info? t).map (·.size) = some 1) (hl : j < l.length)
    (h : VL P n S w0 ops Q rest env (L.set k (.blk b T (u64s (l.set j v))))) : VL P n S w0 ops Q ({ dst := none, op := .store t x y, type := ty, pos, after := af, guard := none } :: rest) env L :=
  l_store1 k hx hy hk hi rfl (by rw [u64s_length]; exact hl) (by rw [u64s_set]; exact h)
theorem l_stI {t : TypeId} {x y : Operand} {b j : Nat} {T : TypeId} {l : List Int} {v : Int} (k : Nat) (hx : evalE env x = some (vP b j)) (hy : evalE env y = some (vI v)) (hk : L[k]? = some (.blk b T (i64s l))) (hi : (P.info? t).map (·.size) = some 1) (hl : j < l.length)
    (h : VL P n S w0 ops Q rest env (L.set k (.blk b T (i64s (l.set j v))))) : VL P n S w0 ops Q ({ dst := none, op := .store t x y, type := ty, pos, after := af, guard := none } :: rest) env L :=
  l_store1 k hx hy hk hi rfl (by rw [i64s_length]; exact hl) (by rw [i64s_set]; exact h)
theorem run_loadVarA {t : TypeId} {dd : TypeDesc} {ad : Addr} {c : List Value} {w : World} (hu : P.underlying t = some dd) (hd : (match dd with | .struct _ | .array _ _ => true | _ => false) = true) (hi : (P.info? t).map (·.size) = some c.length) (hc : SlAt w (some ad) c) : (loadVar t ad).run P w = .ok (.agg c.toArray) w := by
  have hagg : (isAgg t).run P w = .ok true w := by
    unfold isAgg
    rw [Sem.run_bind, run_underlying hu w]
    cases dd <;> simp_all
  have hl := run_loadCells_list (P := P) w ad c (fun j v hv => hc.get hv)
  cases hq : P.info? t with
  | none => simp [hq] at hi
  | some i =>
    have hs : i.size = c.length := by simpa [hq] using hi
    simp [loadVar, hagg, sizeOf, typeInfo, hq, hs, hl]
theorem resC1 {fn : Func} {s : Tmp} {t : TypeId} {dd : TypeDesc} {b sz : Nat} {T : TypeId} {c : List Value} (k : Nat) (h : fn.results = #[.cell s t]) (hu : P.underlying t = some dd) (hd : (match dd with | .struct _ | .array _ _ => true | _ => false) = true) (hs : look s env = some (vP b 0)) (hk : L[k]? = some (.blk b T c)) (hi : (P.info? t).map (·.size) = some sz) (hl : c.length = sz) :
    ResE P n S w0 fn env L (.agg c.toArray) := fun a w hm H => by
  have h1 := hm.get s _ hs
  have h2 := run_loadVarA hu hd (by rw [hi, hl]) (H.blk hk).sl0
  simp [results, h, Array.getD_eq_getD_getElem?, h1, asAddr, h2]
/-- copy of bytes, or of other elements of one cell, into a part of a block -/
theorem l_copy {t tx e : TypeId} {s x : Operand} {b o dl dc m cx : Nat} {T : TypeId} {c vs : List Value} {A : Option Addr} (k : Nat) (hs : evalE env s = some (.slice (some ⟨b, o, none⟩) dl dc)) (hx : evalE env x = some (.slice A m cx)) (hk : L[k]? = some (.blk b T c)) (hu : P.underlying t = some (.slice e)) (htx : P.underlying tx = some (.slice e))
    (hi : (P.info? e).map (·.size) = some 1) (hA : Reads S w0 L A vs) (hl : vs.length = m) (h1 : ∀ u ∈ vs, u.oneCell' = true) (ho : o + min m dl ≤ c.length) (hd : dstOk n (some d) = true)
    (h : VL P n S w0 ops Q rest ((d, vN (min m dl)) :: env) (L.set k (.blk b T (splice c o (vs.take (min m dl)))))) :
    VL P n S w0 ops Q ({ dst := some d, op := .call { callee := .builtin .copy, args := #[s, x], argTypes := #[t, tx] }, type := ty, pos, after := af, guard := none } :: rest) env L :=
  vl_run trivial fun a w hm H => by
    have hb := H.blk hk
    have hr := hA w H
    cases hq : P.info? e with
    | none => simp [hq] at hi
    | some i =>
      have hsz : i.size = 1 := by simpa [hq] using hi
      have hc : (Builtin.firstCells 1 (min m dl) (.slice A m cx)).run P w = .ok (vs.take (min m dl)).toArray w := by
        cases A with
        | none =>
          have : vs = [] := by
            cases vs with
            | nil => rfl
            | cons v r => obtain ⟨a', e', _⟩ := hr 0 v rfl; cases e'
          subst this
          have : m = 0 := by simpa using hl.symm
          subst this
          simp [Builtin.firstCells]
        | some ad =>
          have hlo := run_loadCells_list (P := P) w ad (vs.take (min m dl)) (fun j v hv => (hr.take _).get hv)
          have hlen : (vs.take (min m dl)).length = min m dl := by rw [List.length_take]; omega
          rw [hlen] at hlo
          simpa [Builtin.firstCells] using hlo
      have hlen : (vs.take (min m dl)).length = min m dl := by rw [List.length_take]; omega
      have hst := run_storeCells_blk P hb o (vs.take (min m dl)) (by rw [hlen]; exact ho) (fun u hu => h1 u (List.mem_of_mem_take hu))
      refine opw_val (v := vN (min m dl)) (w' := w.setRow b (splice c o (vs.take (min m dl))).toArray) ?_ ?_
      · simp [execOp, resolve, invoke, builtin, Builtin.copy_, run_underlying hu, hm.eval hs, hm.eval hx, Builtin.lenOf, sizeOf, typeInfo, hq, hsz, hc, hst, goInt, Nat.min_def]
        have e2 : (if m ≤ dl then m else dl) = min m dl := rfl
        simp only [← Nat.min_def] at *
        simp [hc, hst]
      · exact h.run _ _ (hm.put hd _) (H.change hk (grownBy_setRow w b _) (setRow_blk hb (length_splice _ _ _ (by rw [hlen]; exact ho))) (fun b' hb' => .inl hb'))

theorem l_boxA {e : TypeId} {x : Operand} {c : List Value} (hx : evalE env x = some (.agg c.toArray)) (hd : dstOk n (some d) = true) (h : ∀ b, VL P n S w0 ops Q rest ((d, vP b 0) :: env) (.blk b e c :: L)) :
    VL P n S w0 ops Q ({ dst := some d, op := .box e x, type := ty, pos, after := af, guard := none } :: rest) env L := l_box hx rfl hd h
theorem l_box1 {e : TypeId} {x : Operand} {v : Value} (h1 : v.oneCell' = true) (hx : evalE env x = some v) (hd : dstOk n (some d) = true) (h : ∀ b, VL P n S w0 ops Q rest ((d, vP b 0) :: env) (.blk b e [v] :: L)) :
    VL P n S w0 ops Q ({ dst := some d, op := .box e x, type := ty, pos, after := af, guard := none } :: rest) env L := l_box hx (by cases v <;> first | rfl | (simp [Value.oneCell'] at h1; done)) hd h
theorem l_allocA {e : TypeId} {c : List Value} (hi : (P.info? e).map (·.zero) = some (some (.agg c.toArray))) (hd : dstOk n (some d) = true) (h : ∀ b, VL P n S w0 ops Q rest ((d, vP b 0) :: env) (.blk b e c :: L)) :
    VL P n S w0 ops Q ({ dst := some d, op := .alloc e, type := ty, pos, after := af, guard := none } :: rest) env L := l_alloc hi rfl hd h
theorem l_alloc1 {e : TypeId} {z : Value} (hi : (P.info? e).map (·.zero) = some (some z)) (h1 : z.oneCell' = true) (hd : dstOk n (some d) = true) (h : ∀ b, VL P n S w0 ops Q rest ((d, vP b 0) :: env) (.blk b e [z] :: L)) :
    VL P n S w0 ops Q ({ dst := some d, op := .alloc e, type := ty, pos, after := af, guard := none } :: rest) env L := l_alloc hi (by cases z <;> first | rfl | (simp [Value.oneCell'] at h1; done)) hd h
theorem l_storeA {t : TypeId} {x y : Operand} {b sz : Nat} {T : TypeId} {c vs : List Value} (k : Nat) (hx : evalE env x = some (vP b 0)) (hy : evalE env y = some (.agg vs.toArray)) (hk : L[k]? = some (.blk b T c)) (hi : (P.info? t).map (·.size) = some sz) (hs : vs.length = sz) (h1 : ∀ u ∈ vs, u.oneCell' = true) (hl : c.length = sz)
    (h : VL P n S w0 ops Q rest env (L.set k (.blk b T vs))) : VL P n S w0 ops Q ({ dst := none, op := .store t x y, type := ty, pos, after := af, guard := none } :: rest) env L :=
  l_storeAll k hx hy hk hi rfl hs h1 hl h

theorem one_all {c : List Value} (h : (c.all fun v => v.oneCell') = true) : ∀ v ∈ c, v.oneCell' = true := fun v hv => List.all_eq_true.1 h v hv
theorem qv_v {F : Env → Prop} {op : Op} {f : Value} (hq : QT P n S w0 { dst := some d, op, type := ty, pos, after := af, guard := none } env L (.val f)) (h : quietsV P n S w0 ops L F rest ((d, f) :: env)) :
    quietsV P n S w0 ops L F ({ dst := some d, op, type := ty, pos, after := af, guard := none } :: rest) env := ⟨f, .inl ⟨trivial, hq⟩, h⟩
theorem qv_vg {F : Env → Prop} {op : Op} {f : Value} (hg : Met ops env g) (hq : QT P n S w0 { dst := some d, op, type := ty, pos, after := af, guard := g } env L (.val f)) (h : quietsV P n S w0 ops L F rest ((d, f) :: env)) :
    quietsV P n S w0 ops L F ({ dst := some d, op, type := ty, pos, after := af, guard := g } :: rest) env := ⟨f, .inl ⟨hg, hq⟩, h⟩
theorem qv_skip {F : Env → Prop} {op : Op} (hu : Unmet ops env g) (h : quietsV P n S w0 ops L F rest ((d, undef) :: env)) :
    quietsV P n S w0 ops L F ({ dst := some d, op, type := ty, pos, after := af, guard := g } :: rest) env := ⟨undef, .inr ⟨hu, rfl⟩, h⟩
theorem qv_end {F : Env → Prop} (h : F env) : quietsV P n S w0 ops L F [] env := h
section
variable {F : ((Nat → Value) → Env) → Ak → Prop} {k : Nat} {C : List Nat} {Cs : List (List Nat)} {E : (Nat → Value) → Env} {A : Ak} {op : Op}
theorem qm_v {f : Value} (hq : ∀ xs : Nat → Value, factsA C xs A → QT P n S w0 { dst := some d, op, type := ty, pos, after := af, guard := none } (E xs) (resA C xs A ++ L) (.val f))
    (h : quietsM P n S w0 ops L F (k + 1) rest Cs (fun xs => (d, f) :: E xs) A) : quietsM P n S w0 ops L F k ({ dst := some d, op, type := ty, pos, after := af, guard := none } :: rest) (C :: Cs) E A :=
  ⟨.val [] fun _ => f, rfl, fun xs hx => .inl ⟨trivial, hq xs hx⟩, by rw [show A ++ (SpX.val [] fun _ => f).ak k = A from List.append_nil A]; exact h⟩
theorem qm_vg {f : Value} (hg : ∀ xs : Nat → Value, Met ops (E xs) g) (hq : ∀ xs : Nat → Value, factsA C xs A → QT P n S w0 { dst := some d, op, type := ty, pos, after := af, guard := g } (E xs) (resA C xs A ++ L) (.val f))
    (h : quietsM P n S w0 ops L F (k + 1) rest Cs (fun xs => (d, f) :: E xs) A) : quietsM P n S w0 ops L F k ({ dst := some d, op, type := ty, pos, after := af, guard := g } :: rest) (C :: Cs) E A :=
  ⟨.val [] fun _ => f, rfl, fun xs hx => .inl ⟨hg xs, hq xs hx⟩, by rw [show A ++ (SpX.val [] fun _ => f).ak k = A from List.append_nil A]; exact h⟩
theorem qm_skip (hg : ∀ xs : Nat → Value, Unmet ops (E xs) g)
    (h : quietsM P n S w0 ops L F (k + 1) rest Cs (fun xs => (d, undef) :: E xs) A) : quietsM P n S w0 ops L F k ({ dst := some d, op, type := ty, pos, after := af, guard := g } :: rest) (C :: Cs) E A :=
  ⟨.val [] fun _ => undef, rfl, fun xs hx => .inr ⟨hg xs, rfl⟩, by rw [show A ++ (SpX.val [] fun _ => undef).ak k = A from List.append_nil A]; exact h⟩
/-- a value that hangs on what those of D came to -/
theorem qm_x (D : List Nat) (f : (Nat → Value) → Value) (hD : (D.all fun j => C.contains j) = true) (hg : ∀ xs : Nat → Value, Met ops (E xs) g) (hq : ∀ xs : Nat → Value, factsA C xs A → QT P n S w0 { dst := some d, op, type := ty, pos, after := af, guard := g } (E xs) (resA C xs A ++ L) (.val (f (mask D xs))))
    (h : quietsM P n S w0 ops L F (k + 1) rest Cs (fun xs => (d, f (mask D xs)) :: E xs) A) : quietsM P n S w0 ops L F k ({ dst := some d, op, type := ty, pos, after := af, guard := g } :: rest) (C :: Cs) E A :=
  ⟨.val D f, hD, fun xs hx => .inl ⟨hg xs, hq xs hx⟩, by rw [show A ++ (SpX.val D f).ak k = A from List.append_nil A]; exact h⟩
theorem qm_a {Fv : Value → Prop} {N : Value → List Res} (hq : ∀ xs : Nat → Value, factsA C xs A → QT P n S w0 { dst := some d, op, type := ty, pos, after := af, guard := none } (E xs) (resA C xs A ++ L) (.any Fv N))
    (h : quietsM P n S w0 ops L F (k + 1) rest Cs (fun xs => (d, xs k) :: E xs) (A ++ [(k, [], fun _ => Fv, fun _ => N)])) : quietsM P n S w0 ops L F k ({ dst := some d, op, type := ty, pos, after := af, guard := none } :: rest) (C :: Cs) E A :=
  ⟨.any [] (fun _ => Fv) (fun _ => N), rfl, fun xs hx => .inl ⟨trivial, hq xs hx⟩, h⟩
theorem qm_ag {Fv : Value → Prop} {N : Value → List Res} (hg : ∀ xs : Nat → Value, Met ops (E xs) g) (hq : ∀ xs : Nat → Value, factsA C xs A → QT P n S w0 { dst := some d, op, type := ty, pos, after := af, guard := g } (E xs) (resA C xs A ++ L) (.any Fv N))
    (h : quietsM P n S w0 ops L F (k + 1) rest Cs (fun xs => (d, xs k) :: E xs) (A ++ [(k, [], fun _ => Fv, fun _ => N)])) : quietsM P n S w0 ops L F k ({ dst := some d, op, type := ty, pos, after := af, guard := g } :: rest) (C :: Cs) E A :=
  ⟨.any [] (fun _ => Fv) (fun _ => N), rfl, fun xs hx => .inl ⟨hg xs, hq xs hx⟩, h⟩
end
def tupAt (v : Value) (i : Nat) : Value := match v with | .tuple vs => (vs[i]?).getD undef | _ => undef
/-- a part of a tuple that a call told -/
theorem q_extX {x : Operand} {i : Nat} {v : Value} (hx : evalE env x = some v) (hv : ∃ vs u, v = .tuple vs ∧ vs[i]? = some u) : QT P n S w0 { dst := some d, op := .extract x i, type := ty, pos, after := af, guard := g } env L (.val (tupAt v i)) := by
  obtain ⟨vs, u, rfl, hu⟩ := hv
  have : tupAt (.tuple vs) i = u := by simp [tupAt, hu]
  rw [this]
  exact q_ext hx hu
theorem qm_end {F : ((Nat → Value) → Env) → Ak → Prop} {k : Nat} {Cs : List (List Nat)} {E : (Nat → Value) → Env} {A : Ak} (h : F E A) : quietsM P n S w0 ops L F k [] Cs E A := h

/-! ### calls that tell new rows -/
def isSl (m : Nat) (v : Value) : Prop := ∃ A c, v = .slice A m c ∧ m ≤ c ∧ c ≤ maxLen
theorem q_callR {f : FuncId} {fn : Func} {xs : Array Operand} {ats : Array TypeId} {args : List Value} {T : TypeId} {size m : Nat} {cs : List Value} (hf : P.funcs[f]? = some fn) (hb : fn.body.isSome = true) (hn : (fn.name == "runtime.NumGoroutine") = false) (hx : evalsE env xs.toList = some args)
    (hc : ∀ w, St S w0 L w → Calls P f args.toArray w (fun e w' => ∃ v, e = .returned v ∧ St [] w [.row T size v m cs] w')) :
    QT P n S w0 { dst := some d, op := .call { callee := .value (.func f), args := xs, argTypes := ats }, type := ty, pos, after := af, guard := g } env L (.any (isSl m) (nRow T size m cs)) :=
  q_call (s := .any (isSl m) (nRow T size m cs)) hf hb hn hx fun w H => (hc w H).mono fun e w' ⟨v, h1, h2⟩ => ⟨v, h1, by
    obtain ⟨A, c, h3, h4, h5, _⟩ := Row.slice (h2.get (k := 0) rfl)
    exact ⟨A, c, h3, h4, h5⟩, h2⟩
theorem l_callR {f : FuncId} {fn : Func} {xs : Array Operand} {ats : Array TypeId} {args : List Value} {T : TypeId} {size m : Nat} {cs : List Value} (hf : P.funcs[f]? = some fn) (hb : fn.body.isSome = true) (hn : (fn.name == "runtime.NumGoroutine") = false) (hx : evalsE env xs.toList = some args)
    (hc : ∀ w, St S w0 L w → Calls P f args.toArray w (fun e w' => ∃ v, e = .returned v ∧ St [] w [.row T size v m cs] w')) (hd : dstOk n (some d) = true)
    (h : ∀ A c, m ≤ c → c ≤ maxLen → VL P n S w0 ops Q rest ((d, .slice A m c) :: env) (.row T size (.slice A m c) m cs :: L)) :
    VL P n S w0 ops Q ({ dst := some d, op := .call { callee := .value (.func f), args := xs, argTypes := ats }, type := ty, pos, after := af, guard := none } :: rest) env L :=
  vl_q (q_callR hf hb hn hx hc) trivial hd (by rintro v ⟨A, c, rfl, h1, h2⟩; exact h A c h1 h2)
theorem q_strR {src dst e : TypeId} {x : Operand} {T : TypeId} {v : Value} {l : List UInt8} {m : Nat} (k : Nat) (hs : P.underlying src = some (.slice e)) (he : P.underlying e = some (.int .u8)) (hd : P.underlying dst = some .string) (hx : evalE env x = some v) (hk : L[k]? = some (.row T 1 v m (bys l))) :
    QT P n S w0 { dst := some d, op := .convert src dst x, type := ty, pos, after := af, guard := g } env L (.val (.string ⟨l.toArray⟩)) :=
  ⟨fun a w hm H => by
    have hr := H.get hk
    obtain ⟨A, c, rfl, _, _, h5⟩ := Row.slice hr
    have hl : m = l.length := by have := hr.1; rw [bys_length] at this; omega
    exact opw_str hs he hd (hm.eval hx) h5 hl ⟨_, rfl, fun h => by simp at h, rfl, St.refl w⟩⟩
/-- strings that are the same -/
theorem q_eqStr {T T' : TypeId} {x y : Operand} {l m : List UInt8} (hT : P.underlying T = some .string) (hx : evalE env x = some (.string ⟨l.toArray⟩)) (hy : evalE env y = some (.string ⟨m.toArray⟩)) :
    QT P n S w0 { dst := some d, op := .binOp .eql T x y T', type := ty, pos, after := af, guard := g } env L (.val (.bool (decide (l = m)))) :=
  q_bin hx hy fun w => by
    simp [eqGuard, binOp, Op.stringOp]
    rw [Bool.eq_iff_iff]
    simp
theorem row_sl {S : List Nat} {w0 w : World} {L : List Res} {T : TypeId} {size m : Nat} {v : Value} {cs : List Value} (H : St S w0 L w) (k : Nat) (hk : L[k]? = some (.row T size v m cs)) : ∃ A c, v = .slice A m c ∧ m ≤ c ∧ c ≤ maxLen ∧ SlAt w A cs := Row.slice (H.get hk)
/-- a call that writes, and comes to one thing -/
theorem l_callE {f : FuncId} {fn : Func} {xs : Array Operand} {ats : Array TypeId} {args : List Value} {v : Value} {L' : List Res} (hf : P.funcs[f]? = some fn) (hb : fn.body.isSome = true) (hn : (fn.name == "runtime.NumGoroutine") = false) (hx : evalsE env xs.toList = some args)
    (hc : ∀ w, St S w0 L w → Calls P f args.toArray w (fun e w' => e = .returned v ∧ St S w0 L' w')) (hd : dstOk n (some d) = true) (h : VL P n S w0 ops Q rest ((d, v) :: env) L') :
    VL P n S w0 ops Q ({ dst := some d, op := .call { callee := .value (.func f), args := xs, argTypes := ats }, type := ty, pos, after := af, guard := none } :: rest) env L :=
  l_call (F := fun u M => u = v ∧ M = L') hf hb hn hx (fun w H => (hc w H).mono fun e w' h => ⟨v, L', h.1, ⟨rfl, rfl⟩, h.2⟩) hd (by rintro u M ⟨rfl, rfl⟩; exact h)

/-! ### what is read through a slice -/
def ptrOf (A : Option Addr) (m : Nat) : Value := .pointer (some ((A.getD ⟨0, 0, none⟩).add m))
theorem SlAt.some {w : World} {A : Option Addr} {vs : List Value} (h : SlAt w A vs) (hl : 0 < vs.length) : ∃ ad, A = some ad := by
  obtain ⟨a, e, _⟩ := h 0 _ (List.getElem?_eq_getElem hl)
  exact ⟨a, e⟩
theorem q_idxRd {t e : TypeId} {x y : Operand} {k : IntKind} {len cap m : Nat} {A : Option Addr} {vs : List Value} (hu : P.underlying t = some (.slice e)) (hi : (P.info? e).map (·.size) = some 1) (hx : evalE env x = some (.slice A len cap)) (hy : evalE env y = some (.int k (m : Int))) (hm : m < len) (hr : Reads S w0 L A vs) (hl : m < vs.length) :
    QT P n S w0 { dst := some d, op := .indexAddr t x y, type := ty, pos, after := af, guard := g } env L (.val (ptrOf A m)) :=
  ⟨fun a w hmo H => by
    obtain ⟨ad, rfl⟩ := (hr w H).some (by omega)
    exact (q_idxS1 hu hi hx hy hm).run a w hmo H⟩
theorem q_loadRd {t : TypeId} {dd : TypeDesc} {x : Operand} {A : Option Addr} {m : Nat} {vs : List Value} {v : Value} (hu : P.underlying t = some dd) (hd : (match dd with | .struct _ | .array _ _ => true | _ => false) = false) (hx : evalE env x = some (ptrOf A m)) (hr : Reads S w0 L A vs) (hc : vs[m]? = some v) :
    QT P n S w0 { dst := some d, op := .load t x, type := ty, pos, after := af, guard := g } env L (.val v) :=
  ⟨fun a w hmo H => by
    have hml := (List.getElem?_eq_some_iff.1 hc).1
    obtain ⟨ad, rfl⟩ := (hr w H).some (by omega)
    exact (q_loadR hu hd hx hr hc).run a w hmo H⟩
/-- a row that is not empty, as the block that it is -/
theorem VC_rowBlk {c : Code} {T : TypeId} {size m : Nat} {A : Option Addr} {cap : Nat} {xs : List Value} (hm : 0 < m) (h : ∀ b more, A = some ⟨b, 0, none⟩ → VC P n S w0 c Q env (.blk b T (xs ++ more) :: L)) : VC P n S w0 c Q env (.row T size (.slice A m cap) m xs :: L) :=
  ⟨fun a w hmo H => by
    obtain ⟨hl, hh⟩ := H.get (k := 0) rfl
    rcases hh with ⟨e, h0⟩ | ⟨b, cap', more, e, h1, h2, h3, h4⟩
    · omega
    · cases e
      exact (h b more rfl).run a w hmo (H.as (k := 0) (r' := .blk b T (xs ++ more)) rfl h4 rfl)⟩
theorem bys_atA {l : List UInt8} {more : List Value} {j : Nat} (h : j < l.length) : (bys l ++ more)[j]? = some (vU8 (l.getD j 0)) := by rw [List.getElem?_append_left (by rw [bys_length]; exact h)]; exact bys_at h
theorem u32s_atA {l : List UInt32} {more : List Value} {j : Nat} (h : j < l.length) : (u32s l ++ more)[j]? = some (vU32 (l.getD j 0)) := by rw [List.getElem?_append_left (by rw [u32s_length]; exact h)]; exact u32s_at h
theorem u64s_atA {l : List UInt64} {more : List Value} {j : Nat} (h : j < l.length) : (u64s l ++ more)[j]? = some (vU64 (l.getD j 0)) := by rw [List.getElem?_append_left (by rw [u64s_length]; exact h)]; exact u64s_at h
theorem i64s_atA {l : List Int} {more : List Value} {j : Nat} (h : j < l.length) : (i64s l ++ more)[j]? = some (vI (l.getD j 0)) := by rw [List.getElem?_append_left (by rw [i64s_length]; exact h)]; exact i64s_at h
theorem l_stU32A {t : TypeId} {x y : Operand} {b j : Nat} {T : TypeId} {l : List UInt32} {more : List Value} {v : UInt32} (k : Nat) (hx : evalE env x = some (vP b j)) (hy : evalE env y = some (vU32 v)) (hk : L[k]? = some (.blk b T (u32s l ++ more))) (hi : (P.info? t).map (·.size) = some 1) (hl : j < l.length)
    (h : VL P n S w0 ops Q rest env (L.set k (.blk b T (u32s (l.set j v) ++ more)))) : VL P n S w0 ops Q ({ dst := none, op := .store t x y, type := ty, pos, after := af, guard := none } :: rest) env L :=
  l_store1 k hx hy hk hi rfl (by rw [List.length_append, u32s_length]; omega) (by rw [List.set_append_left _ _ (by rw [u32s_length]; exact hl), u32s_set]; exact h)
theorem l_stBA {t : TypeId} {x y : Operand} {b j : Nat} {T : TypeId} {l : List UInt8} {more : List Value} {v : UInt8} (k : Nat) (hx : evalE env x = some (vP b j)) (hy : evalE env y = some (vU8 v)) (hk : L[k]? = some (.blk b T (bys l ++ more))) (hi : (P.info? t).map (·.size) = some 1) (hl : j < l.length)
    (h : VL P n S w0 ops Q rest env (L.set k (.blk b T (bys (l.set j v) ++ more)))) : VL P n S w0 ops Q ({ dst := none, op := .store t x y, type := ty, pos, after := af, guard := none } :: rest) env L :=
  l_store1 k hx hy hk hi rfl (by rw [List.length_append, bys_length]; omega) (by rw [List.set_append_left _ _ (by rw [bys_length]; exact hl), bys_set]; exact h)
/-- a written-out slice as numbers -/
theorem q_litA {t e : TypeId} {m bytes : Nat} {pr : Array (Nat × Operand)} {z : Value} {vs cs : List Value} (hu : P.underlying t = some (.slice e)) (hi : (P.info? e).map (fun i => (i.zero, i.size, i.bytes)) = some (some z, 1, bytes)) (hsm : m ≤ 16777216) (hz : z.oneCell' = true)
    (hp : evalsE env (pr.toList.map (·.2)) = some vs) (hm : vs.length = m) (hi2 : pr.toList.map (·.1) = List.range m) (h1 : ∀ v ∈ vs, v.oneCell' = true) (hcs : vs = cs) :
    QT P n S w0 { dst := some d, op := .buildSlice t m pr, type := ty, pos, after := af, guard := g } env L (.any (fun u => ∃ b, u = .slice (some ⟨b, 0, none⟩) m m) (nRow e 1 m cs)) := by
  subst hcs
  have hfill : ∀ (vs : List Value) (k : Nat) (c : List Value), k + vs.length ≤ c.length → fillL c ((List.range' k vs.length).zip vs) = c.take k ++ vs ++ c.drop (k + vs.length) := by
    intro vs
    induction vs with
    | nil => intro k c _; simp [fillL]
    | cons v vs ih =>
      intro k c hk
      simp only [List.length_cons] at hk
      show fillL c ((List.range' k (vs.length + 1)).zip (v :: vs)) = _
      rw [List.range'_succ, List.zip_cons_cons, fillL, ih (k + 1) (c.set k v) (by simp; omega)]
      have e1 : (c.set k v).take (k + 1) = c.take k ++ [v] := by
        rw [List.take_succ_eq_append_getElem (by simp; omega), List.take_set_of_le (by omega)]
        simp
      have e2 : (c.set k v).drop (k + 1 + vs.length) = c.drop (k + (vs.length + 1)) := by
        rw [List.drop_set_of_lt (by omega)]
        congr 1
        omega
      rw [e1, e2]
      simp
  have hps : ((List.range m).zip vs).map (·.2) = vs := by rw [List.map_snd_zip]; simp [hm]
  have hps1 : ((List.range m).zip vs).map (·.1) = List.range m := by rw [List.map_fst_zip]; simp [hm]
  have hfin := hfill vs 0 (List.replicate m z) (by simp [hm])
  rw [hm, ← List.range_eq_range'] at hfin
  have hq := q_lit (n := n) (S := S) (w0 := w0) (L := L) (d := d) (ty := ty) (pos := pos) (af := af) (g := g) (ps := (List.range m).zip vs) hu hi hsm hz (by rw [hps]; exact hp) (by rw [hps1]; exact hi2) (by
    intro p hp'
    have h2 := List.of_mem_zip hp'
    exact ⟨h1 p.2 h2.2, List.mem_range.1 h2.1⟩)
  rw [hfin] at hq
  simpa using hq
theorem l_litA {t e : TypeId} {m bytes : Nat} {pr : Array (Nat × Operand)} {z : Value} {vs cs : List Value} (hu : P.underlying t = some (.slice e)) (hi : (P.info? e).map (fun i => (i.zero, i.size, i.bytes)) = some (some z, 1, bytes)) (hsm : m ≤ 16777216) (hz : z.oneCell' = true)
    (hp : evalsE env (pr.toList.map (·.2)) = some vs) (hm : vs.length = m) (hi2 : pr.toList.map (·.1) = List.range m) (h1 : ∀ v ∈ vs, v.oneCell' = true) (hcs : vs = cs) (hd : dstOk n (some d) = true)
    (h : ∀ b, VL P n S w0 ops Q rest ((d, .slice (some ⟨b, 0, none⟩) m m) :: env) (.row e 1 (.slice (some ⟨b, 0, none⟩) m m) m cs :: L)) :
    VL P n S w0 ops Q ({ dst := some d, op := .buildSlice t m pr, type := ty, pos, after := af, guard := none } :: rest) env L :=
  vl_q (q_litA hu hi hsm hz hp hm hi2 h1 hcs) trivial hd (by rintro v ⟨b, rfl⟩; exact h b)

/-! ### calls that tell a new row and something else -/
theorem tupAt_0 (a b : Value) : tupAt (.tuple #[a, b]) 0 = a := rfl
theorem tupAt_1 (a b : Value) : tupAt (.tuple #[a, b]) 1 = b := rfl
def isSlT (m : Nat) (u v : Value) : Prop := ∃ A c, v = .tuple #[.slice A m c, u] ∧ m ≤ c ∧ c ≤ maxLen
def nRowT (e : TypeId) (size m : Nat) (xs : List Value) (v : Value) : List Res := [.row e size (tupAt v 0) m xs]
theorem q_callT {f : FuncId} {fn : Func} {xs : Array Operand} {ats : Array TypeId} {args : List Value} {T : TypeId} {size m : Nat} {cs : List Value} {u : Value} (hf : P.funcs[f]? = some fn) (hb : fn.body.isSome = true) (hn : (fn.name == "runtime.NumGoroutine") = false) (hx : evalsE env xs.toList = some args)
    (hc : ∀ w, St S w0 L w → Calls P f args.toArray w (fun e w' => ∃ v, e = .returned (.tuple #[v, u]) ∧ St [] w [.row T size v m cs] w')) :
    QT P n S w0 { dst := some d, op := .call { callee := .value (.func f), args := xs, argTypes := ats }, type := ty, pos, after := af, guard := g } env L (.any (isSlT m u) (nRowT T size m cs)) :=
  q_call (s := .any (isSlT m u) (nRowT T size m cs)) hf hb hn hx fun w H => (hc w H).mono fun e w' ⟨v, h1, h2⟩ => ⟨.tuple #[v, u], h1, by
    have hrow : Res.ok w' (.row T size v m cs) := h2.get (k := 0) rfl
    obtain ⟨A, c, h3, h4, h5, _⟩ := Row.slice hrow
    exact ⟨A, c, by rw [h3], h4, h5⟩, h2⟩
theorem l_callT {f : FuncId} {fn : Func} {xs : Array Operand} {ats : Array TypeId} {args : List Value} {T : TypeId} {size m : Nat} {cs : List Value} {u : Value} (hf : P.funcs[f]? = some fn) (hb : fn.body.isSome = true) (hn : (fn.name == "runtime.NumGoroutine") = false) (hx : evalsE env xs.toList = some args)
    (hc : ∀ w, St S w0 L w → Calls P f args.toArray w (fun e w' => ∃ v, e = .returned (.tuple #[v, u]) ∧ St [] w [.row T size v m cs] w')) (hd : dstOk n (some d) = true)
    (h : ∀ A c, m ≤ c → c ≤ maxLen → VL P n S w0 ops Q rest ((d, .tuple #[.slice A m c, u]) :: env) (.row T size (.slice A m c) m cs :: L)) :
    VL P n S w0 ops Q ({ dst := some d, op := .call { callee := .value (.func f), args := xs, argTypes := ats }, type := ty, pos, after := af, guard := none } :: rest) env L :=
  vl_q (q_callT hf hb hn hx hc) trivial hd (by rintro v ⟨A, c, rfl, h1, h2⟩; exact h A c h1 h2)
theorem SlAt.adv {w : World} {A : Option Addr} {vs : List Value} (h : SlAt w A vs) {l m sz : Nat} (hm : vs.length ≤ m * sz) : SlAt w (PBYtngdppffcdhhlaa.adv A l m sz) (vs.drop (l * sz)) := h.dropIf (fun e => by subst e; exact hm)

theorem endRow {T : TypeId} {size m : Nat} {cs : List Value} (e : Ending) (w' : World) (L' : List Res) (h : ∃ v M, e = .returned v ∧ L' = .row T size v m cs :: M) (H : St S w0 L' w') : ∃ v, e = .returned v ∧ St S w0 [.row T size v m cs] w' := by
  obtain ⟨v, M, rfl, rfl⟩ := h
  exact ⟨v, rfl, H.sub (by simp)⟩
theorem q_true {o : Oper} {b : Bool} (hq : QT P n S w0 o env L (.val (.bool b))) (h : b = true) : QT P n S w0 o env L (.val (.bool true)) := h ▸ hq
theorem q_false {o : Oper} {b : Bool} (hq : QT P n S w0 o env L (.val (.bool b))) (h : b = false) : QT P n S w0 o env L (.val (.bool false)) := h ▸ hq
theorem q_as {o : Oper} {u v : Value} (hq : QT P n S w0 o env L (.val u)) (h : u = v) : QT P n S w0 o env L (.val v) := h ▸ hq
theorem q_makeR {t e : TypeId} {l c : Operand} {z : Value} {bytes m : Nat} {kl kc : IntKind} (hu : P.underlying t = some (.slice e)) (hi : (P.info? e).map (fun i => (i.zero, i.size, i.bytes)) = some (some z, 1, bytes)) (hz : z.oneCell' = true)
    (hl : evalE env l = some (.int kl (m : Int))) (hc : evalE env c = some (.int kc (m : Int))) (hb : bytes * m ≤ 281474976710656) (hm : m ≤ maxLen) :
    QT P n S w0 { dst := some d, op := .makeSlice t l c, type := ty, pos, after := af, guard := g } env L (.any (isSl m) (nRow e 1 m (List.replicate m z))) :=
  ⟨fun a w hmo H => opw_make (St.refl w) hu hi hz (hmo.eval hl) (hmo.eval hc) hb hm fun w' b H' => ⟨_, rfl, fun h => by simp at h, ⟨_, m, rfl, Nat.le_refl _, hm⟩, St.row1 H' (by simp) hm⟩⟩
theorem q_addStr {T T' : TypeId} {x y : Operand} {l m : List UInt8} (hx : evalE env x = some (.string ⟨l.toArray⟩)) (hy : evalE env y = some (.string ⟨m.toArray⟩)) (h1 : l.length ≤ 8388608) (h2 : m.length ≤ 8388608) :
    QT P n S w0 { dst := some d, op := .binOp .add T x y T', type := ty, pos, after := af, guard := g } env L (.val (.string ⟨(l ++ m).toArray⟩)) :=
  q_bin hx hy fun w => by
    have h := run_string_add_lists (P := P) w l m (by omega) (by omega)
    simpa [eqGuard, binOp] using h

theorem q_xorUn_u32 {T : TypeId} {x : Operand} {p : UInt32} (hx : evalE env x = some (vU32 p)) : QT P n S w0 { dst := some d, op := .unOp .xor T x, type := ty, pos, after := af, guard := g } env L (.val (vU32 (4294967295 ^^^ p))) :=
  q_of rfl fun a w hm H => by
    have h : (BitVec.ofInt IntKind.u32.bits IntKind.u32.max ^^^ BitVec.ofInt IntKind.u32.bits (p.toNat : Int)).toNat = ((4294967295 : UInt32) ^^^ p).toNat := by
      show (BitVec.ofInt 32 4294967295 ^^^ BitVec.ofInt 32 (p.toNat : Int)).toNat = _
      rw [bv_u32]
      rfl
    have h2 := wrap_self_u32 ((4294967295 : UInt32) ^^^ p)
    rw [← h] at h2
    have e : (execOp a.eval { dst := some d, op := .unOp .xor T x, type := ty, pos, after := af, guard := g }).run P w = .ok (.value (.int .u32 (IntKind.u32.wrap ((BitVec.ofInt IntKind.u32.bits IntKind.u32.max ^^^ BitVec.ofInt IntKind.u32.bits (p.toNat : Int)).toNat : Int)))) w := by
      simp [execOp, hm.eval hx, Op.unary, Op.intBits, IntKind.signed]
    rw [e, h2, h]
/-- a call that tells a new variable's address -/
theorem l_callP {f : FuncId} {fn : Func} {xs : Array Operand} {ats : Array TypeId} {args : List Value} {T : TypeId} {cs : List Value} (hf : P.funcs[f]? = some fn) (hb : fn.body.isSome = true) (hn : (fn.name == "runtime.NumGoroutine") = false) (hx : evalsE env xs.toList = some args)
    (hc : ∀ w, St S w0 L w → Calls P f args.toArray w (fun e w' => ∃ b, e = .returned (vP b 0) ∧ St [] w [.blk b T cs] w')) (hd : dstOk n (some d) = true)
    (h : ∀ b, VL P n S w0 ops Q rest ((d, vP b 0) :: env) (.blk b T cs :: L)) :
    VL P n S w0 ops Q ({ dst := some d, op := .call { callee := .value (.func f), args := xs, argTypes := ats }, type := ty, pos, after := af, guard := none } :: rest) env L :=
  vl_q (q_call (s := .any (fun u => ∃ b, u = vP b 0) (nBlk T cs)) hf hb hn hx fun w H => (hc w H).mono fun e w' ⟨b, h1, h2⟩ => ⟨vP b 0, h1, ⟨b, rfl⟩, h2⟩) trivial hd (by rintro v ⟨b, rfl⟩; exact h b)
/-- a part of a slice that lies in a block -/
theorem q_slcSb {t e : TypeId} {x : Operand} {lo hi mx : Option Operand} {sz len cap l h m b o r : Nat} (hu : P.underlying t = some (.slice e)) (hi' : (P.info? e).map (·.size) = some sz) (hx : evalE env x = some (.slice (some ⟨b, o, none⟩) len cap)) (hlo : BndE env lo 0 l) (hhi : BndE env hi len h) (hmx : BndE env mx cap m) (hmh : mx = none ∨ hi.isSome = true)
    (h1 : l ≤ h) (h2 : h ≤ m) (h3 : m ≤ cap) (h4 : l < m) (hr : o + l * sz = r) : QT P n S w0 { dst := some d, op := .slice t x lo hi mx, type := ty, pos, after := af, guard := g } env L (.val (.slice (some ⟨b, r, none⟩) (h - l) (m - l))) := by
  have := q_slcS (g := g) (d := d) (ty := ty) (pos := pos) (af := af) (n := n) (S := S) (w0 := w0) (L := L) hu hi' hx hlo hhi hmx hmh h1 h2 h3
  subst hr
  rw [adv, if_neg (by omega)] at this
  simpa [Addr.add_lit] using this
/-- a block as a row that may grow -/
theorem VC_toRow {c : Code} {T : TypeId} {b m : Nat} {cs : List Value} (hl : cs.length = m) (hm : m ≤ maxLen) (h : VC P n S w0 c Q env (.row T 1 (.slice (some ⟨b, 0, none⟩) m m) m cs :: L)) : VC P n S w0 c Q env (.blk b T cs :: L) :=
  ⟨fun a w hmo H => h.run a w hmo (H.toRow (k := 0) (size := 1) (n := m) rfl (by omega) hm)⟩
theorem q_s2a {arr e : TypeId} {x : Operand} {len cap m : Nat} {A : Option Addr} (hu : P.underlying arr = some (.array m e)) (hx : evalE env x = some (.slice A len cap)) (hm : m ≤ len) :
    QT P n S w0 { dst := some d, op := .sliceToArrayPointer arr x, type := ty, pos, after := af, guard := g } env L (.val (.pointer A)) :=
  q_of rfl fun a w hmo H => by
    have h := run_arrayAt (P := P) w arr e m A len cap hu hm
    simp [execOp, hmo.eval hx, h]
theorem resC2 {fn : Func} {s u : Tmp} {t : TypeId} {dd : TypeDesc} {b sz : Nat} {T : TypeId} {c : List Value} {v : Value} (k : Nat) (h : fn.results = #[.cell s t, .tmp u]) (hu : P.underlying t = some dd) (hd : (match dd with | .struct _ | .array _ _ => true | _ => false) = true) (hs : look s env = some (vP b 0)) (hk : L[k]? = some (.blk b T c)) (hi : (P.info? t).map (·.size) = some sz) (hl : c.length = sz) (hv : look u env = some v) :
    ResE P n S w0 fn env L (.tuple #[.agg c.toArray, v]) := fun a w hm H => by
  have h1 := hm.get s _ hs
  have h3 := hm.get u _ hv
  have h2 := run_loadVarA hu hd (by rw [hi, hl]) (H.blk hk).sl0
  simp [results, h, Array.getD_eq_getD_getElem?, h1, h3, asAddr, h2]
theorem repB (m : Nat) : List.replicate m (Value.int .u8 0) = bys (List.replicate m 0) := by simp [bys]
theorem repU32 (m : Nat) : List.replicate m (Value.int .u32 0) = u32s (List.replicate m 0) := by simp [u32s]
theorem repU64 (m : Nat) : List.replicate m (Value.int .u64 0) = u64s (List.replicate m 0) := by simp [u64s]
theorem repI64 (m : Nat) : List.replicate m (Value.int .i64 0) = i64s (List.replicate m 0) := by simp [i64s]
theorem l_makeZ {t e : TypeId} {l c : Operand} {z : Value} {bytes m : Nat} {kl kc : IntKind} {cs : List Value} (hu : P.underlying t = some (.slice e)) (hi : (P.info? e).map (fun i => (i.zero, i.size, i.bytes)) = some (some z, 1, bytes)) (hz : z.oneCell' = true)
    (hl : evalE env l = some (.int kl (m : Int))) (hc : evalE env c = some (.int kc (m : Int))) (hb : bytes * m ≤ 281474976710656) (hm : m ≤ maxLen) (hd : dstOk n (some d) = true) (hcs : List.replicate m z = cs)
    (h : ∀ b, VL P n S w0 ops Q rest ((d, .slice (some ⟨b, 0, none⟩) m m) :: env) (.blk b e cs :: L)) :
    VL P n S w0 ops Q ({ dst := some d, op := .makeSlice t l c, type := ty, pos, after := af, guard := none } :: rest) env L :=
  l_make hu hi hz hl hc hb hm hd (hcs ▸ h)
/-! ### short names for lengths -/
theorem zb (l : List UInt8) : (bys l).length = l.length := bys_length l
theorem zu (l : List UInt32) : (u32s l).length = l.length := u32s_length l
theorem zw (l : List UInt64) : (u64s l).length = l.length := u64s_length l
theorem zi (l : List Int) : (i64s l).length = l.length := i64s_length l
theorem zs {α : Type} {l : List α} {i : Nat} {a : α} : (l.set i a).length = l.length := List.length_set
theorem zr {α : Type} {n : Nat} {a : α} : (List.replicate n a).length = n := List.length_replicate
theorem zm {α β : Type} {l : List α} (f : α → β) : (l.map f).length = l.length := List.length_map f
theorem za {α : Type} {l m : List α} : (l ++ m).length = l.length + m.length := List.length_append
theorem zt {α : Type} {l : List α} {i : Nat} : (l.take i).length = min i l.length := List.length_take
theorem zd {α : Type} {l : List α} {i : Nat} : (l.drop i).length = l.length - i := List.length_drop
theorem zc {α : Type} {a : α} {l : List α} : (a :: l).length = l.length + 1 := List.length_cons
theorem zn {α : Type} : ([] : List α).length = 0 := List.length_nil

end
end Go.PBYtngdppffcdhhlaa
