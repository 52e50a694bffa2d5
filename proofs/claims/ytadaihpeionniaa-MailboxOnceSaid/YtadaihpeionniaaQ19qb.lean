/- Words and laws that the proofs of this seat share, part 2 of 3. No condition. -/
import Derived.Test.YtadaihpeionniaaQ19qa
section
namespace Go.PBYtadaihpeionniaa
open Go Go.RowKit
set_option linter.unusedSimpArgs false
set_option linter.unusedVariables false
abbrev vU8 (x : UInt8) : Value := .int .u8 (x.toNat : Int)
abbrev vU32 (x : UInt32) : Value := .int .u32 (x.toNat : Int)
abbrev vU64 (x : UInt64) : Value := .int .u64 (x.toNat : Int)
abbrev vI (x : Int) : Value := .int .i64 x
abbrev vN (x : Nat) : Value := .int .i64 (x : Int)
abbrev vP (b o : Nat) : Value := .pointer (some ⟨b, o, none⟩)
theorem wi {x : Int} (h1 : -9223372036854775808 ≤ x) (h2 : x ≤ 9223372036854775807) : IntKind.i64.wrap x = x := by rw [IntKind.wrap_i64]; omega
section
variable {P : Program} {n : Nat} {S : List Nat} {w0 : World} {env : Env} {L : List Res} {Q : QE} {ops : Array Oper} {rest : List Oper}
variable {d : Tmp} {ty : TypeId} {pos : String} {af : Array Edge} {g : Option (Nat × Bool)} {o : Oper}
/-! ### the rules -/
theorem q_of {f : Value} (hd : o.dst = some d) (h : ∀ a w, Models n env a → St S w0 L w → (execOp a.eval o).run P w = .ok (.value f) w) : QT P n S w0 o env L (.val f) := by
  refine ⟨fun a w hm H => ?_⟩
  unfold Oper.wp
  rw [h a w hm H]
  show ∃ v, a.put o.dst f = a.put o.dst v ∧ (o.dst = none → v = undef) ∧ (Sp.val f).fact v ∧ St [] w ((Sp.val f).res v) w
  exact ⟨f, rfl, fun hn => absurd (hd.symm.trans hn) (fun h => by cases h), rfl, St.refl w⟩
theorem vl_nil (h : Q .normal env L) : VL P n S w0 ops Q [] env L := ⟨fun a w hm H => ⟨env, L, hm, H, h⟩⟩
theorem vl_q {s : Sp} (hq : QT P n S w0 o env L s) (hg : Met ops env o.guard) (hd : dstOk n o.dst = true) (h : ∀ v, s.fact v → VL P n S w0 ops Q rest (ext o.dst v env) (s.res v ++ L)) : VL P n S w0 ops Q (o :: rest) env L := by
  refine ⟨fun a w hm H => ?_⟩
  unfold wpList
  rw [if_pos (hg.wanted hm)]
  left
  have hw := hq.run a w hm H
  unfold Oper.wp at hw ⊢
  refine upon_imp hw ?_ ?_
  · rintro v w' ⟨u, h1, h2, h3, h4⟩
    rw [h1]
    exact (h u h3).run _ w' (hm.put hd u) ((H.join h4).perm List.perm_append_comm)
  · rintro e w' ⟨u, h1, _⟩
    have h5 := congrArg Act.defers h1
    rw [put_defs, put_defs] at h5
    have h6 := congrArg List.length h5
    simp at h6
/-- it comes to a value -/
theorem vl_v {op : Op} {f : Value} (hq : QT P n S w0 { dst := some d, op, type := ty, pos, after := af, guard := none } env L (.val f)) (hd : dstOk n (some d) = true) (h : VL P n S w0 ops Q rest ((d, f) :: env) L) :
    VL P n S w0 ops Q ({ dst := some d, op, type := ty, pos, after := af, guard := none } :: rest) env L :=
  vl_q hq trivial hd (by rintro v rfl; exact h)
/-- the same, guarded -/
theorem vl_vg {op : Op} {f : Value} (hg : Met ops env g) (hq : QT P n S w0 { dst := some d, op, type := ty, pos, after := af, guard := g } env L (.val f)) (hd : dstOk n (some d) = true) (h : VL P n S w0 ops Q rest ((d, f) :: env) L) :
    VL P n S w0 ops Q ({ dst := some d, op, type := ty, pos, after := af, guard := g } :: rest) env L :=
  vl_q hq hg hd (by rintro v rfl; exact h)
theorem vl_skip (hu : Unmet ops env o.guard) (hd : dstOk n o.dst = true) (h : VL P n S w0 ops Q rest (ext o.dst undef env) L) : VL P n S w0 ops Q (o :: rest) env L := by
  refine ⟨fun a w hm H => ?_⟩
  unfold wpList
  rw [hu.wanted hm]
  simp only [Bool.false_eq_true, if_false]
  exact h.run _ w (hm.put hd undef) H
theorem VL.sub {l : List Oper} {env' : Env} {L' : List Res} (h : VL P n S w0 ops Q l env' L') (he : Sub env env') (hL : ∀ w, St S w0 L w → St S w0 L' w) : VL P n S w0 ops Q l env L :=
  ⟨fun a w hm H => h.run a w (hm.sub he) (hL w H)⟩
theorem VC_region {id : Nat} {l : List Oper} (h : VL P n S w0 l.toArray Q l env L) : VC P n S w0 (.region id l.toArray false) Q env L :=
  ⟨fun a w hm H => Go.wp_region_lit (h.run a w hm H)⟩
/-! ### values -/
theorem q_move {x : Operand} {v : Value} (hx : evalE env x = some v) : QT P n S w0 { dst := some d, op := .move x, type := ty, pos, after := af, guard := g } env L (.val v) :=
  q_of rfl fun a w hm H => by simp [execOp, hm.eval hx]
theorem q_assign {x : Operand} {v : Value} (hx : evalE env x = some v) : QT P n S w0 { dst := some d, op := .assign x, type := ty, pos, after := af, guard := g } env L (.val v) :=
  q_of rfl fun a w hm H => by simp [execOp, hm.eval hx]
theorem q_pickT {c x y : Operand} {v : Value} (hc : evalE env c = some (.bool true)) (hx : evalE env x = some v) : QT P n S w0 { dst := some d, op := .pick c x y, type := ty, pos, after := af, guard := g } env L (.val v) :=
  q_of rfl fun a w hm H => by simp [execOp, hm.eval hc, hm.eval hx, asBool]
theorem q_pickF {c x y : Operand} {v : Value} (hc : evalE env c = some (.bool false)) (hy : evalE env y = some v) : QT P n S w0 { dst := some d, op := .pick c x y, type := ty, pos, after := af, guard := g } env L (.val v) :=
  q_of rfl fun a w hm H => by simp [execOp, hm.eval hc, hm.eval hy, asBool]
theorem q_bin {op : BinOp} {T T' : TypeId} {x y : Operand} {vx vy f : Value} (hx : evalE env x = some vx) (hy : evalE env y = some vy) (h : ∀ w, (do eqGuard op T x y vx vy; binOp op T vx vy : Sem Value).run P w = .ok f w) :
    QT P n S w0 { dst := some d, op := .binOp op T x y T', type := ty, pos, after := af, guard := g } env L (.val f) :=
  q_of rfl fun a w hm H => by
    have := h w
    simp only [Sem.run_bind] at this
    simp only [execOp, hm.eval hx, hm.eval hy, Sem.run_bind, bind_assoc]
    cases h1 : (eqGuard op T x y vx vy).run P w with
    | halt e w' => rw [h1] at this; simp at this
    | ok u w' =>
      rw [h1] at this
      simp only [Result.andThen_ok] at this ⊢
      rw [this]
      simp
theorem q_add_k {T T' : TypeId} {x y : Operand} {k : IntKind} {p q r : Int} (hx : evalE env x = some (.int k p)) (hy : evalE env y = some (.int k q)) (hr : k.wrap (p + q) = r) :
    QT P n S w0 { dst := some d, op := .binOp .add T x y T', type := ty, pos, after := af, guard := g } env L (.val (.int k r)) :=
  q_bin hx hy fun w => by simp [eqGuard, binOp, Op.intArith, hr]
theorem q_add_i {T T' : TypeId} {x y : Operand} {p q : Int} (hx : evalE env x = some (.int .i64 p)) (hy : evalE env y = some (.int .i64 q)) (h1 : -9223372036854775808 ≤ p + q) (h2 : p + q ≤ 9223372036854775807) :
    QT P n S w0 { dst := some d, op := .binOp .add T x y T', type := ty, pos, after := af, guard := g } env L (.val (.int .i64 (p + q))) :=
  q_add_k hx hy (by rw [wi h1 h2])
theorem q_add_n {T T' : TypeId} {x y : Operand} {p q : Nat} (hx : evalE env x = some (.int .i64 (p : Int))) (hy : evalE env y = some (.int .i64 (q : Int))) (h2 : p + q ≤ 9223372036854775807) :
    QT P n S w0 { dst := some d, op := .binOp .add T x y T', type := ty, pos, after := af, guard := g } env L (.val (.int .i64 ((p + q : Nat) : Int))) :=
  q_add_k hx hy (by rw [← Int.natCast_add, wi (by omega) (by omega)])
theorem q_sub_k {T T' : TypeId} {x y : Operand} {k : IntKind} {p q r : Int} (hx : evalE env x = some (.int k p)) (hy : evalE env y = some (.int k q)) (hr : k.wrap (p - q) = r) :
    QT P n S w0 { dst := some d, op := .binOp .sub T x y T', type := ty, pos, after := af, guard := g } env L (.val (.int k r)) :=
  q_bin hx hy fun w => by simp [eqGuard, binOp, Op.intArith, hr]
theorem q_sub_i {T T' : TypeId} {x y : Operand} {p q : Int} (hx : evalE env x = some (.int .i64 p)) (hy : evalE env y = some (.int .i64 q)) (h1 : -9223372036854775808 ≤ p - q) (h2 : p - q ≤ 9223372036854775807) :
    QT P n S w0 { dst := some d, op := .binOp .sub T x y T', type := ty, pos, after := af, guard := g } env L (.val (.int .i64 (p - q))) :=
  q_sub_k hx hy (by rw [wi h1 h2])
theorem q_sub_n {T T' : TypeId} {x y : Operand} {p q : Nat} (hx : evalE env x = some (.int .i64 (p : Int))) (hy : evalE env y = some (.int .i64 (q : Int))) (h1 : q ≤ p) (h2 : p ≤ 9223372036854775807) :
    QT P n S w0 { dst := some d, op := .binOp .sub T x y T', type := ty, pos, after := af, guard := g } env L (.val (.int .i64 ((p - q : Nat) : Int))) :=
  q_sub_k hx hy (by rw [Int.ofNat_sub h1, wi (by omega) (by omega)])
theorem q_rem_n {T T' : TypeId} {x y : Operand} {k : IntKind} {p q : Nat} (hx : evalE env x = some (.int k (p : Int))) (hy : evalE env y = some (.int k (q : Int))) (h1 : 0 < q) :
    QT P n S w0 { dst := some d, op := .binOp .rem T x y T', type := ty, pos, after := af, guard := g } env L (.val (.int k ((p % q : Nat) : Int))) :=
  q_bin hx hy fun w => by
    have h : ¬ ((q : Int) = 0) := by omega
    have h3 : ((p : Int).tmod (q : Int)) = ((p % q : Nat) : Int) := by rw [Int.tmod_eq_emod_of_nonneg (by omega)]; norm_cast
    have hq : q ≠ 0 := by omega
    simp only [eqGuard, binOp, Op.intDiv, Sem.run_bind, h3]
    simp [hq]
theorem q_lss_k {T T' : TypeId} {x y : Operand} {k : IntKind} {p q : Int} {kd : IntKind} (hT : P.underlying T = some (.int kd)) (hx : evalE env x = some (.int k p)) (hy : evalE env y = some (.int k q)) :
    QT P n S w0 { dst := some d, op := .binOp .lss T x y T', type := ty, pos, after := af, guard := g } env L (.val (.bool (decide (p < q)))) :=
  q_bin hx hy fun w => by simp [eqGuard, binOp, Op.intCmp, Op.equal, Op.maxDepth, Op.equalIn, run_underlying hT]
theorem q_lss_n {T T' : TypeId} {x y : Operand} {k : IntKind} {p q : Nat} {kd : IntKind} (hT : P.underlying T = some (.int kd)) (hx : evalE env x = some (.int k (p : Int))) (hy : evalE env y = some (.int k (q : Int))) :
    QT P n S w0 { dst := some d, op := .binOp .lss T x y T', type := ty, pos, after := af, guard := g } env L (.val (.bool (decide (p < q)))) := by
  have := q_lss_k (g := g) (d := d) (ty := ty) (pos := pos) (af := af) (n := n) (S := S) (w0 := w0) (L := L) (T' := T') hT hx hy
  simpa only [Int.ofNat_lt, Int.ofNat_le, Int.ofNat_inj] using this
theorem q_leq_k {T T' : TypeId} {x y : Operand} {k : IntKind} {p q : Int} {kd : IntKind} (hT : P.underlying T = some (.int kd)) (hx : evalE env x = some (.int k p)) (hy : evalE env y = some (.int k q)) :
    QT P n S w0 { dst := some d, op := .binOp .leq T x y T', type := ty, pos, after := af, guard := g } env L (.val (.bool (decide (p ≤ q)))) :=
  q_bin hx hy fun w => by simp [eqGuard, binOp, Op.intCmp, Op.equal, Op.maxDepth, Op.equalIn, run_underlying hT]
theorem q_leq_n {T T' : TypeId} {x y : Operand} {k : IntKind} {p q : Nat} {kd : IntKind} (hT : P.underlying T = some (.int kd)) (hx : evalE env x = some (.int k (p : Int))) (hy : evalE env y = some (.int k (q : Int))) :
    QT P n S w0 { dst := some d, op := .binOp .leq T x y T', type := ty, pos, after := af, guard := g } env L (.val (.bool (decide (p ≤ q)))) := by
  have := q_leq_k (g := g) (d := d) (ty := ty) (pos := pos) (af := af) (n := n) (S := S) (w0 := w0) (L := L) (T' := T') hT hx hy
  simpa only [Int.ofNat_lt, Int.ofNat_le, Int.ofNat_inj] using this
theorem q_gtr_k {T T' : TypeId} {x y : Operand} {k : IntKind} {p q : Int} {kd : IntKind} (hT : P.underlying T = some (.int kd)) (hx : evalE env x = some (.int k p)) (hy : evalE env y = some (.int k q)) :
    QT P n S w0 { dst := some d, op := .binOp .gtr T x y T', type := ty, pos, after := af, guard := g } env L (.val (.bool (decide (q < p)))) :=
  q_bin hx hy fun w => by simp [eqGuard, binOp, Op.intCmp, Op.equal, Op.maxDepth, Op.equalIn, run_underlying hT]
theorem q_gtr_n {T T' : TypeId} {x y : Operand} {k : IntKind} {p q : Nat} {kd : IntKind} (hT : P.underlying T = some (.int kd)) (hx : evalE env x = some (.int k (p : Int))) (hy : evalE env y = some (.int k (q : Int))) :
    QT P n S w0 { dst := some d, op := .binOp .gtr T x y T', type := ty, pos, after := af, guard := g } env L (.val (.bool (decide (q < p)))) := by
  have := q_gtr_k (g := g) (d := d) (ty := ty) (pos := pos) (af := af) (n := n) (S := S) (w0 := w0) (L := L) (T' := T') hT hx hy
  simpa only [Int.ofNat_lt, Int.ofNat_le, Int.ofNat_inj] using this
theorem q_geq_k {T T' : TypeId} {x y : Operand} {k : IntKind} {p q : Int} {kd : IntKind} (hT : P.underlying T = some (.int kd)) (hx : evalE env x = some (.int k p)) (hy : evalE env y = some (.int k q)) :
    QT P n S w0 { dst := some d, op := .binOp .geq T x y T', type := ty, pos, after := af, guard := g } env L (.val (.bool (decide (q ≤ p)))) :=
  q_bin hx hy fun w => by simp [eqGuard, binOp, Op.intCmp, Op.equal, Op.maxDepth, Op.equalIn, run_underlying hT]
theorem q_geq_n {T T' : TypeId} {x y : Operand} {k : IntKind} {p q : Nat} {kd : IntKind} (hT : P.underlying T = some (.int kd)) (hx : evalE env x = some (.int k (p : Int))) (hy : evalE env y = some (.int k (q : Int))) :
    QT P n S w0 { dst := some d, op := .binOp .geq T x y T', type := ty, pos, after := af, guard := g } env L (.val (.bool (decide (q ≤ p)))) := by
  have := q_geq_k (g := g) (d := d) (ty := ty) (pos := pos) (af := af) (n := n) (S := S) (w0 := w0) (L := L) (T' := T') hT hx hy
  simpa only [Int.ofNat_lt, Int.ofNat_le, Int.ofNat_inj] using this
theorem q_eql_k {T T' : TypeId} {x y : Operand} {k : IntKind} {p q : Int} {kd : IntKind} (hT : P.underlying T = some (.int kd)) (hx : evalE env x = some (.int k p)) (hy : evalE env y = some (.int k q)) :
    QT P n S w0 { dst := some d, op := .binOp .eql T x y T', type := ty, pos, after := af, guard := g } env L (.val (.bool (decide (p = q)))) :=
  q_bin hx hy fun w => by simp [eqGuard, binOp, Op.intCmp, Op.equal, Op.maxDepth, Op.equalIn, run_underlying hT, bne, Bool.beq_eq_decide_eq]
theorem q_eql_n {T T' : TypeId} {x y : Operand} {k : IntKind} {p q : Nat} {kd : IntKind} (hT : P.underlying T = some (.int kd)) (hx : evalE env x = some (.int k (p : Int))) (hy : evalE env y = some (.int k (q : Int))) :
    QT P n S w0 { dst := some d, op := .binOp .eql T x y T', type := ty, pos, after := af, guard := g } env L (.val (.bool (decide (p = q)))) := by
  have := q_eql_k (g := g) (d := d) (ty := ty) (pos := pos) (af := af) (n := n) (S := S) (w0 := w0) (L := L) (T' := T') hT hx hy
  simpa only [Int.ofNat_lt, Int.ofNat_le, Int.ofNat_inj] using this
theorem q_neq_k {T T' : TypeId} {x y : Operand} {k : IntKind} {p q : Int} {kd : IntKind} (hT : P.underlying T = some (.int kd)) (hx : evalE env x = some (.int k p)) (hy : evalE env y = some (.int k q)) :
    QT P n S w0 { dst := some d, op := .binOp .neq T x y T', type := ty, pos, after := af, guard := g } env L (.val (.bool (!decide (p = q)))) :=
  q_bin hx hy fun w => by simp [eqGuard, binOp, Op.intCmp, Op.equal, Op.maxDepth, Op.equalIn, run_underlying hT, bne, Bool.beq_eq_decide_eq]
theorem q_neq_n {T T' : TypeId} {x y : Operand} {k : IntKind} {p q : Nat} {kd : IntKind} (hT : P.underlying T = some (.int kd)) (hx : evalE env x = some (.int k (p : Int))) (hy : evalE env y = some (.int k (q : Int))) :
    QT P n S w0 { dst := some d, op := .binOp .neq T x y T', type := ty, pos, after := af, guard := g } env L (.val (.bool (!decide (p = q)))) := by
  have := q_neq_k (g := g) (d := d) (ty := ty) (pos := pos) (af := af) (n := n) (S := S) (w0 := w0) (L := L) (T' := T') hT hx hy
  simpa only [Int.ofNat_lt, Int.ofNat_le, Int.ofNat_inj] using this
theorem q_not {T : TypeId} {x : Operand} {t : Bool} (hx : evalE env x = some (.bool t)) : QT P n S w0 { dst := some d, op := .unOp .not T x, type := ty, pos, after := af, guard := g } env L (.val (.bool !t)) :=
  q_of rfl fun a w hm H => by simp [execOp, hm.eval hx, Op.unary]
theorem q_conv_k {src dst : TypeId} {ds : TypeDesc} {x : Operand} {k k' : IntKind} {p r : Int} (hs : P.underlying src = some ds) (hd : P.underlying dst = some (.int k)) (hx : evalE env x = some (.int k' p)) (hr : k.wrap p = r) :
    QT P n S w0 { dst := some d, op := .convert src dst x, type := ty, pos, after := af, guard := g } env L (.val (.int k r)) :=
  q_of rfl fun a w hm H => by simp [execOp, hm.eval hx, convert, run_underlying hs, run_underlying hd, Conv.intToInt, hr]
theorem q_conv_nu8 {src dst : TypeId} {ds : TypeDesc} {x : Operand} {k' : IntKind} {p : Nat} (hs : P.underlying src = some ds) (hd : P.underlying dst = some (.int .u8)) (hx : evalE env x = some (.int k' (p : Int))) :
    QT P n S w0 { dst := some d, op := .convert src dst x, type := ty, pos, after := af, guard := g } env L (.val (vU8 (UInt8.ofNat p))) :=
  q_conv_k hs hd hx (by
    simp only [IntKind.wrap, IntKind.bits, IntKind.signed, Bool.false_and, Bool.false_eq_true, if_false, UInt8.toNat_ofNat']
    norm_cast)
/-! ### memory that is read -/
/-- wherever these are owned, the cells vs lie there -/
def Reads (S : List Nat) (w0 : World) (L : List Res) (A : Option Addr) (vs : List Value) : Prop := ∀ w, St S w0 L w → SlAt w A vs
theorem Reads.blk {b : Nat} {T : TypeId} {c : List Value} (k : Nat) (hk : L[k]? = some (.blk b T c)) : Reads S w0 L (some ⟨b, 0, none⟩) c := fun w H => (H.blk hk).sl0
theorem Reads.blkTake {b : Nat} {T : TypeId} {c vs : List Value} (k o m : Nat) (hk : L[k]? = some (.blk b T c)) (hv : (c.drop o).take m = vs) : Reads S w0 L (some ⟨b, o, none⟩) vs := fun w H => hv ▸ ((H.blk hk).sl o).take m
theorem Reads.row {T : TypeId} {size m cap r : Nat} {A : Option Addr} {xs : List Value} (k : Nat) (hk : L[k]? = some (.row T size (.slice A m cap) r xs)) : Reads S w0 L A xs := fun w H => Row.sl (H.get hk)
theorem Reads.old {A : Option Addr} {vs : List Value} (h : SlAt w0 A vs) : Reads [] w0 L A vs := fun w H => H.sl0 h
theorem Reads.take {A : Option Addr} {vs us : List Value} (h : Reads S w0 L A vs) (m : Nat) (hu : vs.take m = us) : Reads S w0 L A us := fun w H => hu ▸ (h w H).take m
theorem Reads.nil {A : Option Addr} : Reads S w0 L A [] := fun w _ => SlAt.nil w A
/-- it is read at one place -/
theorem q_cell {t : TypeId} {dd : TypeDesc} {x : Operand} {ad : Addr} {v : Value} (hu : P.underlying t = some dd) (hd : (match dd with | .struct _ | .array _ _ => true | _ => false) = false) (hx : evalE env x = some (.pointer (some ad))) (hc : ∀ w, St S w0 L w → w.cell? ad = some v) :
    QT P n S w0 { dst := some d, op := .load t x, type := ty, pos, after := af, guard := g } env L (.val v) :=
  ⟨fun a w hm H => opw_load hu hd (hm.eval hx) (hc w H) ⟨v, rfl, fun h => by simp at h, rfl, St.refl w⟩⟩
theorem q_load {t : TypeId} {dd : TypeDesc} {x : Operand} {b j : Nat} {T : TypeId} {c : List Value} {v : Value} (k : Nat) (hu : P.underlying t = some dd) (hd : (match dd with | .struct _ | .array _ _ => true | _ => false) = false) (hx : evalE env x = some (vP b j)) (hk : L[k]? = some (.blk b T c)) (hc : c[j]? = some v) :
    QT P n S w0 { dst := some d, op := .load t x, type := ty, pos, after := af, guard := g } env L (.val v) :=
  q_cell hu hd hx fun w H => (H.cell hk j).trans hc
theorem q_loadR {t : TypeId} {dd : TypeDesc} {x : Operand} {ad : Addr} {j : Nat} {vs : List Value} {v : Value} (hu : P.underlying t = some dd) (hd : (match dd with | .struct _ | .array _ _ => true | _ => false) = false) (hx : evalE env x = some (.pointer (some (ad.add j)))) (hr : Reads S w0 L (some ad) vs) (hc : vs[j]? = some v) :
    QT P n S w0 { dst := some d, op := .load t x, type := ty, pos, after := af, guard := g } env L (.val v) :=
  q_cell hu hd hx fun w H => (hr w H).get hc
theorem q_loadsR {t : TypeId} {dd : TypeDesc} {x : Operand} {ad : Addr} {vs : List Value} (hu : P.underlying t = some dd) (hd : (match dd with | .struct _ | .array _ _ => true | _ => false) = true) (hi : (P.info? t).map (·.size) = some vs.length) (hx : evalE env x = some (.pointer (some ad))) (hr : Reads S w0 L (some ad) vs) :
    QT P n S w0 { dst := some d, op := .load t x, type := ty, pos, after := af, guard := g } env L (.val (.agg vs.toArray)) :=
  ⟨fun a w hm H => opw_loads hu hd hi (hm.eval hx) (hr w H) ⟨_, rfl, fun h => by simp at h, rfl, St.refl w⟩⟩
theorem q_loads {t : TypeId} {dd : TypeDesc} {x : Operand} {b sz : Nat} {T : TypeId} {c : List Value} (k : Nat) (hu : P.underlying t = some dd) (hd : (match dd with | .struct _ | .array _ _ => true | _ => false) = true) (hx : evalE env x = some (vP b 0)) (hk : L[k]? = some (.blk b T c)) (hi : (P.info? t).map (·.size) = some sz) (hl : c.length = sz) :
    QT P n S w0 { dst := some d, op := .load t x, type := ty, pos, after := af, guard := g } env L (.val (.agg c.toArray)) :=
  q_loadsR hu hd (by rw [hi, hl]) hx (Reads.blk k hk)
theorem q_loadsAt {t : TypeId} {dd : TypeDesc} {x : Operand} {b j sz : Nat} {T : TypeId} {c vs : List Value} (k : Nat) (hu : P.underlying t = some dd) (hd : (match dd with | .struct _ | .array _ _ => true | _ => false) = true) (hx : evalE env x = some (vP b j)) (hk : L[k]? = some (.blk b T c)) (hi : (P.info? t).map (·.size) = some sz) (hv : (c.drop j).take sz = vs) (hl : vs.length = sz) :
    QT P n S w0 { dst := some d, op := .load t x, type := ty, pos, after := af, guard := g } env L (.val (.agg vs.toArray)) :=
  q_loadsR hu hd (by rw [hi, hl]) hx (Reads.blkTake k j sz hk hv)
/-! ### new memory -/
def nBlk (e : TypeId) (c : List Value) (u : Value) : List Res := match u with | .pointer (some ⟨b, _, _⟩) => [.blk b e c] | _ => []
theorem q_box {e : TypeId} {x : Operand} {v : Value} {c : List Value} (hx : evalE env x = some v) (hc : v.cells.toList = c) :
    QT P n S w0 { dst := some d, op := .box e x, type := ty, pos, after := af, guard := g } env L (.any (fun u => ∃ b, u = vP b 0) (nBlk e c)) :=
  ⟨fun a w hm H => opw_box (St.refl w) (by rw [hm.eval hx]; exact hc) fun w' b H' => ⟨_, rfl, fun h => by simp at h, ⟨b, rfl⟩, H'⟩⟩
theorem q_alloc {e : TypeId} {z : Value} {c : List Value} (hi : (P.info? e).map (·.zero) = some (some z)) (hc : z.cells.toList = c) :
    QT P n S w0 { dst := some d, op := .alloc e, type := ty, pos, after := af, guard := g } env L (.any (fun u => ∃ b, u = vP b 0) (nBlk e c)) := by
  subst hc
  exact ⟨fun a w hm H => opw_allocZ (St.refl w) hi fun w' b H' => ⟨_, rfl, fun h => by simp at h, ⟨b, rfl⟩, H'⟩⟩
theorem l_box {e : TypeId} {x : Operand} {v : Value} {c : List Value} (hx : evalE env x = some v) (hc : v.cells.toList = c) (hd : dstOk n (some d) = true) (h : ∀ b, VL P n S w0 ops Q rest ((d, vP b 0) :: env) (.blk b e c :: L)) :
    VL P n S w0 ops Q ({ dst := some d, op := .box e x, type := ty, pos, after := af, guard := none } :: rest) env L :=
  vl_q (q_box hx hc) trivial hd (by rintro v ⟨b, rfl⟩; exact h b)
theorem l_alloc {e : TypeId} {z : Value} {c : List Value} (hi : (P.info? e).map (·.zero) = some (some z)) (hc : z.cells.toList = c) (hd : dstOk n (some d) = true) (h : ∀ b, VL P n S w0 ops Q rest ((d, vP b 0) :: env) (.blk b e c :: L)) :
    VL P n S w0 ops Q ({ dst := some d, op := .alloc e, type := ty, pos, after := af, guard := none } :: rest) env L :=
  vl_q (q_alloc hi hc) trivial hd (by rintro v ⟨b, rfl⟩; exact h b)
def nRow (e : TypeId) (size m : Nat) (xs : List Value) (u : Value) : List Res := [.row e size u m xs]
/-- make of m elements of one cell, as a block -/
def nMk (e : TypeId) (c : List Value) (u : Value) : List Res := match u with | .slice (some ⟨b, _, _⟩) _ _ => [.blk b e c] | _ => []
theorem q_make {t e : TypeId} {l c : Operand} {z : Value} {bytes m : Nat} {kl kc : IntKind} (hu : P.underlying t = some (.slice e)) (hi : (P.info? e).map (fun i => (i.zero, i.size, i.bytes)) = some (some z, 1, bytes)) (hz : z.oneCell' = true)
    (hl : evalE env l = some (.int kl (m : Int))) (hc : evalE env c = some (.int kc (m : Int))) (hb : bytes * m ≤ 281474976710656) (hm : m ≤ maxLen) :
    QT P n S w0 { dst := some d, op := .makeSlice t l c, type := ty, pos, after := af, guard := g } env L (.any (fun u => ∃ b, u = .slice (some ⟨b, 0, none⟩) m m) (nMk e (List.replicate m z))) :=
  ⟨fun a w hmo H => opw_make (St.refl w) hu hi hz (hmo.eval hl) (hmo.eval hc) hb hm fun w' b H' => ⟨_, rfl, fun h => by simp at h, ⟨b, rfl⟩, H'⟩⟩
theorem l_make {t e : TypeId} {l c : Operand} {z : Value} {bytes m : Nat} {kl kc : IntKind} (hu : P.underlying t = some (.slice e)) (hi : (P.info? e).map (fun i => (i.zero, i.size, i.bytes)) = some (some z, 1, bytes)) (hz : z.oneCell' = true)
    (hl : evalE env l = some (.int kl (m : Int))) (hc : evalE env c = some (.int kc (m : Int))) (hb : bytes * m ≤ 281474976710656) (hm : m ≤ maxLen) (hd : dstOk n (some d) = true)
    (h : ∀ b, VL P n S w0 ops Q rest ((d, .slice (some ⟨b, 0, none⟩) m m) :: env) (.blk b e (List.replicate m z) :: L)) :
    VL P n S w0 ops Q ({ dst := some d, op := .makeSlice t l c, type := ty, pos, after := af, guard := none } :: rest) env L :=
  vl_q (q_make hu hi hz hl hc hb hm) trivial hd (by rintro v ⟨b, rfl⟩; exact h b)
/-- a slice of elements of one cell that is written out -/
theorem q_lit {t e : TypeId} {m bytes : Nat} {pr : Array (Nat × Operand)} {z : Value} {ps : List (Nat × Value)} (hu : P.underlying t = some (.slice e)) (hi : (P.info? e).map (fun i => (i.zero, i.size, i.bytes)) = some (some z, 1, bytes)) (hsm : m ≤ 16777216) (hz : z.oneCell' = true)
    (hp : evalsE env (pr.toList.map (·.2)) = some (ps.map (·.2))) (hi2 : pr.toList.map (·.1) = ps.map (·.1)) (h1 : ∀ p ∈ ps, p.2.oneCell' = true ∧ p.1 < m) :
    QT P n S w0 { dst := some d, op := .buildSlice t m pr, type := ty, pos, after := af, guard := g } env L (.any (fun u => ∃ b, u = .slice (some ⟨b, 0, none⟩) m m) (nRow e 1 m (fillL (List.replicate m z) ps))) :=
  ⟨fun a w hmo H => opw_lit1 ps (St.refl w) hu hi hsm hz (by
    have h2 := hmo.evals hp
    rw [List.map_map] at h2
    have key : ∀ (l : List (Nat × Operand)) (q : List (Nat × Value)), l.map (a.eval ∘ fun x => x.2) = q.map (·.2) → l.map (·.1) = q.map (·.1) → (l.map fun p => (p.1, a.eval p.2)) = q := by
      intro l
      induction l with
      | nil => intro q h3 h4; cases q with | nil => rfl | cons y q => simp at h4
      | cons y l ih =>
        intro q h3 h4
        cases q with
        | nil => simp at h4
        | cons z q =>
          simp only [List.map_cons, List.cons.injEq, Function.comp] at h3 h4
          rw [List.map_cons, ih q h3.2 h4.2, h3.1, h4.1]
    exact key _ _ h2 hi2) h1 fun w' b H' => ⟨_, rfl, fun h => by simp at h, ⟨b, rfl⟩, H'⟩⟩
/-! ### memory that is written -/
theorem vl_run (hg : Met ops env o.guard) (h : ∀ a w, Models n env a → St S w0 L w → o.wp P a w (wpList P ops (lift n S w0 Q) rest) (lift n S w0 Q)) : VL P n S w0 ops Q (o :: rest) env L := by
  refine ⟨fun a w hm H => ?_⟩
  unfold wpList
  rw [if_pos (hg.wanted hm)]
  exact .inl (h a w hm H)
theorem splice_set {c : List Value} {j : Nat} {v : Value} (h : j < c.length) : splice c j [v] = c.set j v := by
  rw [List.set_eq_take_append_cons_drop, if_pos h]
  simp [splice]
theorem l_store1 {t : TypeId} {x y : Operand} {b j : Nat} {T : TypeId} {c : List Value} {v : Value} (k : Nat) (hx : evalE env x = some (vP b j)) (hy : evalE env y = some v) (hk : L[k]? = some (.blk b T c)) (hi : (P.info? t).map (·.size) = some 1) (h1 : v.oneCell' = true) (hl : j < c.length)
    (h : VL P n S w0 ops Q rest env (L.set k (.blk b T (c.set j v)))) : VL P n S w0 ops Q ({ dst := none, op := .store t x y, type := ty, pos, after := af, guard := none } :: rest) env L :=
  vl_run trivial fun a w hm H => opw_store1 v H hk (hm.eval hx) (hm.eval hy) hi hl h1 fun w' H' => h.run _ w' hm (by rw [← splice_set hl]; exact H')
theorem l_storeAt {t : TypeId} {x y : Operand} {b j sz : Nat} {T : TypeId} {c vs : List Value} {v : Value} (k : Nat) (hx : evalE env x = some (vP b j)) (hy : evalE env y = some v) (hk : L[k]? = some (.blk b T c)) (hi : (P.info? t).map (·.size) = some sz) (hv : v.cells.toList = vs) (hs : vs.length = sz) (h1 : ∀ u ∈ vs, u.oneCell' = true) (hl : j + sz ≤ c.length)
    (h : VL P n S w0 ops Q rest env (L.set k (.blk b T (splice c j vs)))) : VL P n S w0 ops Q ({ dst := none, op := .store t x y, type := ty, pos, after := af, guard := none } :: rest) env L :=
  vl_run trivial fun a w hm H => opw_store H hk (hm.eval hx) (by rw [hm.eval hy]; exact hv) (by rw [hi, hs]) (by omega) h1 fun w' H' => h.run _ w' hm H'
theorem l_storeAll {t : TypeId} {x y : Operand} {b sz : Nat} {T : TypeId} {c vs : List Value} {v : Value} (k : Nat) (hx : evalE env x = some (vP b 0)) (hy : evalE env y = some v) (hk : L[k]? = some (.blk b T c)) (hi : (P.info? t).map (·.size) = some sz) (hv : v.cells.toList = vs) (hs : vs.length = sz) (h1 : ∀ u ∈ vs, u.oneCell' = true) (hl : c.length = sz)
    (h : VL P n S w0 ops Q rest env (L.set k (.blk b T vs))) : VL P n S w0 ops Q ({ dst := none, op := .store t x y, type := ty, pos, after := af, guard := none } :: rest) env L :=
  l_storeAt k hx hy hk hi hv hs h1 (by omega) (by rw [splice_all (by omega)]; exact h)
/-! ### places -/
def BndE (env : Env) : Option Operand → Nat → Nat → Prop
  | none, dflt, l => l = dflt
  | some y, _, l => ∃ k, evalE env y = some (.int k (l : Int))
theorem run_bnds {cap l h m : Nat} {w : World} {vl vh vm : Option Value} (fl : Bool) (len : Nat) (hq : vm = none ∨ vh.isSome = true) (hl : (vl = none ∧ l = 0) ∨ ∃ k, vl = some (.int k (l : Int))) (hh : (vh = none ∧ h = len) ∨ ∃ k, vh = some (.int k (h : Int))) (hm : (vm = none ∧ m = cap) ∨ ∃ k, vm = some (.int k (m : Int)))
    (h1 : l ≤ h) (h2 : h ≤ m) (h3 : m ≤ cap) : (Instr.sliceBounds fl len cap vl vh vm).run P w = .ok (l, h, m) w := by
  have hb : ∀ (k : IntKind) (i y : Nat) (code : BoundsCode), i ≤ y → (Instr.sliceBound (.int k (i : Int)) y code).run P w = .ok i w := fun k i y code hi => run_sliceBound_nat hi
  rcases hl with ⟨rfl, rfl⟩ | ⟨kl, rfl⟩ <;> rcases hh with ⟨rfl, rfl⟩ | ⟨kh, rfl⟩ <;> rcases hm with ⟨rfl, rfl⟩ | ⟨km, rfl⟩ <;>
    simp [Instr.sliceBounds, hb, h1, h2, h3] at hq ⊢
theorem BndE.opt {env : Env} {a : Act} (hm : Models n env a) {lo : Option Operand} {dflt l : Nat} (h : BndE env lo dflt l) : (lo.map a.eval = none ∧ l = dflt) ∨ ∃ k, lo.map a.eval = some (.int k (l : Int)) := by
  cases lo with
  | none => exact .inl ⟨rfl, h⟩
  | some y => obtain ⟨k, h⟩ := h; exact .inr ⟨k, by rw [Option.map_some, hm.eval h]⟩
/-- a part of an array -/
theorem q_slcA {t e : TypeId} {x : Operand} {lo hi mx : Option Operand} {len sz b o l h m r : Nat} (hu : P.underlying t = some (.array len e)) (hi' : (P.info? e).map (·.size) = some sz) (hx : evalE env x = some (vP b o)) (hlo : BndE env lo 0 l) (hhi : BndE env hi len h) (hmx : BndE env mx len m) (hmh : mx = none ∨ hi.isSome = true)
    (h1 : l ≤ h) (h2 : h ≤ m) (h3 : m ≤ len) (h4 : l < m ∨ l = 0) (hr : o + l * sz = r) : QT P n S w0 { dst := some d, op := .slice t x lo hi mx, type := ty, pos, after := af, guard := g } env L (.val (.slice (some ⟨b, r, none⟩) (h - l) (m - l))) :=
  q_of rfl fun a w hmo H => by
    cases hq : P.info? e with
    | none => simp [hq] at hi'
    | some i =>
      have hs : i.size = sz := by simpa [hq] using hi'
      have e1 : (Instr.sliceBounds false len len (lo.map a.eval) (hi.map a.eval) (mx.map a.eval)).run P w = .ok (l, h, m) w := run_bnds _ len (by rcases hmh with rfl | h <;> simp_all) (hlo.opt hmo) (hhi.opt hmo) (hmx.opt hmo) h1 h2 h3
      have e2 : (if m = l then (⟨b, o, none⟩ : Addr) else (⟨b, o, none⟩ : Addr).add (l * sz)) = ⟨b, r, none⟩ := by
        subst hr
        split
        · have : l = 0 := by omega
          subst this; simp
        · rw [Addr.add_lit]
      simp [execOp, Instr.sliceAt, run_underlying hu, hmo.eval hx, Instr.sureAddr, e1, sizeOf, typeInfo, hq, hs, e2]
/-- an element's place in a slice -/
theorem q_idxS {t e : TypeId} {x y : Operand} {k : IntKind} {len cap sz m : Nat} {ad : Addr} (hu : P.underlying t = some (.slice e)) (hi : (P.info? e).map (·.size) = some sz) (hx : evalE env x = some (.slice (some ad) len cap)) (hy : evalE env y = some (.int k (m : Int))) (hm : m < len) :
    QT P n S w0 { dst := some d, op := .indexAddr t x y, type := ty, pos, after := af, guard := g } env L (.val (.pointer (some (ad.add (m * sz))))) :=
  q_of rfl fun a w hmo H => by
    cases hq : P.info? e with
    | none => simp [hq] at hi
    | some i =>
      have hs : i.size = sz := by simpa [hq] using hi
      have h1 : (0 : Int) ≤ (m : Int) ∧ (m : Int) < (len : Int) := by omega
      simp [execOp, Instr.indexAt, run_underlying hu, hmo.eval hx, hmo.eval hy, asIntOf, hm, sizeOf, typeInfo, hq, hs]
theorem q_idxS1 {t e : TypeId} {x y : Operand} {k : IntKind} {len cap m : Nat} {ad : Addr} (hu : P.underlying t = some (.slice e)) (hi : (P.info? e).map (·.size) = some 1) (hx : evalE env x = some (.slice (some ad) len cap)) (hy : evalE env y = some (.int k (m : Int))) (hm : m < len) :
    QT P n S w0 { dst := some d, op := .indexAddr t x y, type := ty, pos, after := af, guard := g } env L (.val (.pointer (some (ad.add m)))) := by
  have := q_idxS (g := g) (d := d) (ty := ty) (pos := pos) (af := af) (n := n) (S := S) (w0 := w0) (L := L) hu hi hx hy hm
  rwa [Nat.mul_one] at this
theorem q_idxS0 {t e : TypeId} {x y : Operand} {k : IntKind} {len cap sz b o m r : Nat} (hu : P.underlying t = some (.slice e)) (hi : (P.info? e).map (·.size) = some sz) (hx : evalE env x = some (.slice (some ⟨b, o, none⟩) len cap)) (hy : evalE env y = some (.int k (m : Int))) (hm : m < len) (hr : o + m * sz = r) :
    QT P n S w0 { dst := some d, op := .indexAddr t x y, type := ty, pos, after := af, guard := g } env L (.val (vP b r)) := by
  have := q_idxS (g := g) (d := d) (ty := ty) (pos := pos) (af := af) (n := n) (S := S) (w0 := w0) (L := L) hu hi hx hy hm
  rwa [Addr.add_lit, hr] at this
/-- where a field lies -/
def fieldOff (P : Program) (s : TypeId) (f : Nat) : Option (Nat × Nat) :=
  match P.underlying s with
  | some (.struct fs) => match fs[f]? with
    | some fd => match P.info? fd.type with
      | some i => some (fd.offset, i.size)
      | none => none
    | none => none
  | _ => none
theorem fieldOff_spec {s : TypeId} {f off sz : Nat} (h : fieldOff P s f = some (off, sz)) : ∃ fs fd i, P.underlying s = some (.struct fs) ∧ fs[f]? = some fd ∧ P.info? fd.type = some i ∧ fd.offset = off ∧ i.size = sz := by
  unfold fieldOff at h
  split at h
  · rename_i fs hu
    split at h
    · rename_i fd hf
      split at h
      · rename_i i hi
        simp only [Option.some.injEq, Prod.mk.injEq] at h
        exact ⟨fs, fd, i, hu, hf, hi, h.1, h.2⟩
      · simp at h
    · simp at h
  · simp at h
theorem q_fldA {s : TypeId} {x : Operand} {f off sz b o r : Nat} (hf : fieldOff P s f = some (off, sz)) (hz : sz ≠ 0) (hx : evalE env x = some (vP b o)) (hr : o + off = r) :
    QT P n S w0 { dst := some d, op := .fieldAddr s x f, type := ty, pos, after := af, guard := g } env L (.val (vP b r)) :=
  q_of rfl fun a w hmo H => by
    obtain ⟨fs, fd, i, hu, hfd, hi, rfl, rfl⟩ := fieldOff_spec hf
    subst hr
    simp [execOp, Instr.fieldAt, run_underlying hu, hfd, hmo.eval hx, Instr.sureAddr, fieldPlace, sizeOf, typeInfo, hi, hz, Addr.add_lit]
/-- .. at an address that nobody knows -/
theorem q_fldAd {s : TypeId} {x : Operand} {f off sz : Nat} {ad : Addr} (hf : fieldOff P s f = some (off, sz)) (hz : sz ≠ 0) (hx : evalE env x = some (.pointer (some ad))) :
    QT P n S w0 { dst := some d, op := .fieldAddr s x f, type := ty, pos, after := af, guard := g } env L (.val (.pointer (some (ad.add off)))) :=
  q_of rfl fun a w hmo H => by
    obtain ⟨fs, fd, i, hu, hfd, hi, rfl, rfl⟩ := fieldOff_spec hf
    simp [execOp, Instr.fieldAt, run_underlying hu, hfd, hmo.eval hx, Instr.sureAddr, fieldPlace, sizeOf, typeInfo, hi, hz]
theorem q_nilck {x : Operand} {ad : Addr} (hx : evalE env x = some (.pointer (some ad))) : QT P n S w0 { dst := some d, op := .nilCheck x, type := ty, pos, after := af, guard := g } env L (.val (.pointer (some ad))) :=
  q_of rfl fun a w hm H => by simp [execOp, hm.eval hx]
/-! ### parts of values -/
theorem q_ext {x : Operand} {vs : Array Value} {i : Nat} {v : Value} (hx : evalE env x = some (.tuple vs)) (hi : vs[i]? = some v) : QT P n S w0 { dst := some d, op := .extract x i, type := ty, pos, after := af, guard := g } env L (.val v) :=
  q_of rfl fun a w hm H => by simp [execOp, hm.eval hx, Instr.extract, hi]
theorem q_build {t : TypeId} {pr : Array (Nat × Operand)} {c' : List Value} {vs : List Value} (hp : evalsE env (pr.toList.map (·.2)) = some vs) (hb : P.built t ((pr.toList.map (·.1)).zip vs) = some c'.toArray) :
    QT P n S w0 { dst := some d, op := .build t pr, type := ty, pos, after := af, guard := g } env L (.val (.agg c'.toArray)) :=
  ⟨fun a w hm H => opw_build _ rfl (by
    have h2 := hm.evals hp
    rw [List.map_map] at h2
    rw [← h2] at hb
    have key : ∀ (l : List (Nat × Operand)), (l.map (·.1)).zip (l.map (a.eval ∘ fun x => x.2)) = l.map fun p => (p.1, a.eval p.2) := by
      intro l
      induction l with
      | nil => rfl
      | cons y l ih => simp only [List.map_cons, List.zip_cons_cons, ih, Function.comp]
    rw [key] at hb
    exact hb) ⟨_, rfl, fun h => by simp at h, rfl, St.refl w⟩⟩
/-! ### builtins -/
theorem q_lenS {t e : TypeId} {x : Operand} {A : Option Addr} {len cap : Nat} (hu : P.underlying t = some (.slice e)) (hx : evalE env x = some (.slice A len cap)) :
    QT P n S w0 { dst := some d, op := .call { callee := .builtin .len, args := #[x], argTypes := #[t] }, type := ty, pos, after := af, guard := g } env L (.val (vN len)) :=
  q_of rfl fun a w hm H => by simp [execOp, resolve, invoke, builtin, Builtin.len_, run_underlying hu, hm.eval hx, goInt]
theorem q_minI {ats : Array TypeId} {x y : Operand} {k : IntKind} {p q : Int} (hx : evalE env x = some (.int k p)) (hy : evalE env y = some (.int k q)) :
    QT P n S w0 { dst := some d, op := .call { callee := .builtin .min, args := #[x, y], argTypes := ats }, type := ty, pos, after := af, guard := g } env L (.val (.int k (min p q))) :=
  q_of rfl fun a w hm H => by
    simp [execOp, resolve, invoke, builtin, Builtin.min_, Builtin.min2, hm.eval hx, hm.eval hy]
    omega
theorem q_maxI {ats : Array TypeId} {x y : Operand} {k : IntKind} {p q : Int} (hx : evalE env x = some (.int k p)) (hy : evalE env y = some (.int k q)) :
    QT P n S w0 { dst := some d, op := .call { callee := .builtin .max, args := #[x, y], argTypes := ats }, type := ty, pos, after := af, guard := g } env L (.val (.int k (max p q))) :=
  q_of rfl fun a w hm H => by
    simp [execOp, resolve, invoke, builtin, Builtin.max_, Builtin.max2, hm.eval hx, hm.eval hy]
    omega
/-! ### calls -/
theorem q_call {f : FuncId} {fn : Func} {xs : Array Operand} {ats : Array TypeId} {args : List Value} {s : Sp} (hf : P.funcs[f]? = some fn) (hb : fn.body.isSome = true) (hn : (fn.name == "runtime.NumGoroutine") = false) (hx : evalsE env xs.toList = some args)
    (hc : ∀ w, St S w0 L w → Calls P f args.toArray w (fun e w' => ∃ v, e = .returned v ∧ s.fact v ∧ St [] w (s.res v) w')) :
    QT P n S w0 { dst := some d, op := .call { callee := .value (.func f), args := xs, argTypes := ats }, type := ty, pos, after := af, guard := g } env L s :=
  ⟨fun a w hm H => opw_call args hf hb hn (hm.evals hx) ((hc w H).mono fun e w' ⟨v, h1, h2, h3⟩ => ⟨v, h1, v, rfl, fun h => by simp at h, h2, h3⟩)⟩
/-- a call that tells a value, and leaves the rest -/
theorem q_callV {f : FuncId} {fn : Func} {xs : Array Operand} {ats : Array TypeId} {args : List Value} {v : Value} (hf : P.funcs[f]? = some fn) (hb : fn.body.isSome = true) (hn : (fn.name == "runtime.NumGoroutine") = false) (hx : evalsE env xs.toList = some args)
    (hc : ∀ w, St S w0 L w → Calls P f args.toArray w (fun e w' => e = .returned v ∧ Kept [] w w')) :
    QT P n S w0 { dst := some d, op := .call { callee := .value (.func f), args := xs, argTypes := ats }, type := ty, pos, after := af, guard := g } env L (.val v) :=
  q_call (s := .val v) hf hb hn hx fun w H => (hc w H).mono fun e w' ⟨h1, h2⟩ => ⟨v, h1, rfl, (St.refl w).keep h2⟩
/-- a call that writes -/
theorem l_call {f : FuncId} {fn : Func} {xs : Array Operand} {ats : Array TypeId} {args : List Value} {F : Value → List Res → Prop} (hf : P.funcs[f]? = some fn) (hb : fn.body.isSome = true) (hn : (fn.name == "runtime.NumGoroutine") = false) (hx : evalsE env xs.toList = some args)
    (hc : ∀ w, St S w0 L w → Calls P f args.toArray w (fun e w' => ∃ v L', e = .returned v ∧ F v L' ∧ St S w0 L' w')) (hd : dstOk n (some d) = true) (h : ∀ v L', F v L' → VL P n S w0 ops Q rest ((d, v) :: env) L') :
    VL P n S w0 ops Q ({ dst := some d, op := .call { callee := .value (.func f), args := xs, argTypes := ats }, type := ty, pos, after := af, guard := none } :: rest) env L :=
  vl_run trivial fun a w hm H => opw_call args hf hb hn (hm.evals hx) ((hc w H).mono fun e w' ⟨v, L', h1, h2, h3⟩ => ⟨v, h1, (h v L' h2).run _ w' (hm.put hd v) h3⟩)
/-- append of a slice -/
theorem l_append {t tx e : TypeId} {s x : Operand} {z : Value} {size bytes p m cx : Nat} {v : Value} {xs news : List Value} {A : Option Addr} (k : Nat) (hs : evalE env s = some v) (hx : evalE env x = some (.slice A m cx)) (hk : L[k]? = some (.row e size v p xs)) (hu : P.underlying t = some (.slice e)) (htx : P.underlying tx = some (.slice e))
    (hi : (P.info? e).map (fun i => (i.zero, i.size, i.bytes)) = some (some z, size, bytes)) (hzs : z.cells.size = size) (hb1 : bytes ≤ 1099511627776) (hA : Reads S w0 L A news) (hl : news.length = m * size) (h1 : ∀ u ∈ news, u.oneCell' = true)
    (hbytes : (p + m) * bytes ≤ 70368744177664) (hmax : p + m ≤ 70368744177664) (hd : dstOk n (some d) = true) (h : ∀ B c, p + m ≤ c → VL P n S w0 ops Q rest ((d, .slice B (p + m) c) :: env) (L.set k (.row e size (.slice B (p + m) c) (p + m) (xs ++ news)))) :
    VL P n S w0 ops Q ({ dst := some d, op := .call { callee := .builtin .append, args := #[s, x], argTypes := #[t, tx] }, type := ty, pos, after := af, guard := none } :: rest) env L :=
  vl_run trivial fun a w hm H => opw_append H hk hu htx hi hzs hb1 (hm.eval hs) (hm.eval hx) (hA w H) hl h1 hbytes hmax fun w' v' H' => by
    have hkl : k < L.length := (List.getElem?_eq_some_iff.1 hk).1
    have hrow : Res.ok w' (.row e size v' (p + m) (xs ++ news)) := H'.get (k := k) (by simp [hkl])
    obtain ⟨B, c, rfl, hc, _, _⟩ := Row.slice hrow
    exact (h B c hc).run _ w' (hm.put hd _) H'
/-! ### where a walk stands -/
theorem th_n {K : Env → List Res → Prop} (h : K env L) : QThen K Q .normal env L := h
theorem th_x {K : Env → List Res → Prop} {i : Nat} (h : Q (.exit i) env L) : QThen K Q (.exit i) env L := h
theorem th_r {K : Env → List Res → Prop} (h : Q .ret env L) : QThen K Q .ret env L := h
theorem bl_n {i : Nat} (h : Q .normal env L) : QBlock i Q .normal env L := h
theorem bl_xs {i : Nat} (h : Q .normal env L) : QBlock i Q (.exit i) env L := by show (if i = i then _ else _); rw [if_pos rfl]; exact h
theorem bl_xo {i j : Nat} (hne : Nat.beq j i = false) (h : Q (.exit j) env L) : QBlock i Q (.exit j) env L := by show (if j = i then _ else _); rw [if_neg (Nat.ne_of_beq_eq_false hne)]; exact h
theorem qn_n (h : Q .normal env L) : QN Q .normal env L := h
theorem VL.keep {l : List Oper} {env' : Env} (he : Sub env env') (h : VL P n S w0 ops Q l env' L) : VL P n S w0 ops Q l env L := h.sub he fun _ H => H
theorem VC.keep {c : Code} {env' : Env} (he : Sub env env') (h : VC P n S w0 c Q env' L) : VC P n S w0 c Q env L := VC_sub h he fun _ H => H
/-! ### rows of numbers -/
def u32s (l : List UInt32) : List Value := l.map vU32
def u64s (l : List UInt64) : List Value := l.map vU64
def i64s (l : List Int) : List Value := l.map vI
theorem u32s_append (l m : List UInt32) : u32s (l ++ m) = u32s l ++ u32s m := by simp [u32s]
theorem u64s_append (l m : List UInt64) : u64s (l ++ m) = u64s l ++ u64s m := by simp [u64s]
theorem i64s_append (l m : List Int) : i64s (l ++ m) = i64s l ++ i64s m := by simp [i64s]
theorem u32s_length (l : List UInt32) : (u32s l).length = l.length := by simp [u32s]
theorem u64s_length (l : List UInt64) : (u64s l).length = l.length := by simp [u64s]
theorem i64s_length (l : List Int) : (i64s l).length = l.length := by simp [i64s]
theorem i64s_at {l : List Int} {j : Nat} (h : j < l.length) : (i64s l)[j]? = some (vI (l.getD j 0)) := by simp [i64s, h]
theorem i64s_set (l : List Int) (j : Nat) (x : Int) : (i64s l).set j (vI x) = i64s (l.set j x) := by simp [i64s, List.map_set]
theorem u32s_one (l : List UInt32) : ∀ v ∈ u32s l, v.oneCell' = true := by
  intro v hv; obtain ⟨x, _, rfl⟩ := List.mem_map.1 hv; rfl
theorem u64s_one (l : List UInt64) : ∀ v ∈ u64s l, v.oneCell' = true := by
  intro v hv; obtain ⟨x, _, rfl⟩ := List.mem_map.1 hv; rfl
theorem i64s_one (l : List Int) : ∀ v ∈ i64s l, v.oneCell' = true := by
  intro v hv; obtain ⟨x, _, rfl⟩ := List.mem_map.1 hv; rfl
theorem app_one {c d : List Value} (h : ∀ v ∈ c, v.oneCell' = true) (h' : ∀ v ∈ d, v.oneCell' = true) : ∀ v ∈ c ++ d, v.oneCell' = true := by
  intro v hv
  rcases List.mem_append.1 hv with h1 | h1
  · exact h v h1
  · exact h' v h1
theorem l_stI {t : TypeId} {x y : Operand} {b j : Nat} {T : TypeId} {l : List Int} {v : Int} (k : Nat) (hx : evalE env x = some (vP b j)) (hy : evalE env y = some (vI v)) (hk : L[k]? = some (.blk b T (i64s l))) (hi : (P.info? t).map (·.size) = some 1) (hl : j < l.length)
    (h : VL P n S w0 ops Q rest env (L.set k (.blk b T (i64s (l.set j v))))) : VL P n S w0 ops Q ({ dst := none, op := .store t x y, type := ty, pos, after := af, guard := none } :: rest) env L :=
  l_store1 k hx hy hk hi rfl (by rw [i64s_length]; exact hl) (by rw [i64s_set]; exact h)
theorem run_loadVarA {t : TypeId} {dd : TypeDesc} {ad : Addr} {c : List Value} {w : World} (hu : P.underlying t = some dd) (hd : (match dd with | .struct _ | .array _ _ => true | _ => false) = true) (hi : (P.info? t).map (·.size) = some c.length) (hc : SlAt w (some ad) c) : (loadVar t ad).run P w = .ok (.agg c.toArray) w := by
  have hagg : (isAgg t).run P w = .ok true w := by
    unfold isAgg
    rw [Sem.run_bind, run_underlying hu w]
    cases dd <;> simp_all
  have hl := run_loadCells_list (P := P) w ad c (fun j v hv => hc.get hv)
  cases hq : P.info? t with
  | none => simp [hq] at hi
  | some i =>
    have hs : i.size = c.length := by simpa [hq] using hi
    simp [loadVar, hagg, sizeOf, typeInfo, hq, hs, hl]
theorem resC1 {fn : Func} {s : Tmp} {t : TypeId} {dd : TypeDesc} {b sz : Nat} {T : TypeId} {c : List Value} (k : Nat) (h : fn.results = #[.cell s t]) (hu : P.underlying t = some dd) (hd : (match dd with | .struct _ | .array _ _ => true | _ => false) = true) (hs : look s env = some (vP b 0)) (hk : L[k]? = some (.blk b T c)) (hi : (P.info? t).map (·.size) = some sz) (hl : c.length = sz) :
    ResE P n S w0 fn env L (.agg c.toArray) := fun a w hm H => by
  have h1 := hm.get s _ hs
  have h2 := run_loadVarA hu hd (by rw [hi, hl]) (H.blk hk).sl0
  simp [results, h, Array.getD_eq_getD_getElem?, h1, asAddr, h2]
/-- copy of bytes, or of other elements of one cell, into a part of a block -/
theorem l_copy {t tx e : TypeId} {s x : Operand} {b o dl dc m cx : Nat} {T : TypeId} {c vs : List Value} {A : Option Addr} (k : Nat) (hs : evalE env s = some (.slice (some ⟨b, o, none⟩) dl dc)) (hx : evalE env x = some (.slice A m cx)) (hk : L[k]? = some (.blk b T c)) (hu : P.underlying t = some (.slice e)) (htx : P.underlying tx = some (.slice e))
    (hi : (P.info? e).map (·.size) = some 1) (hA : Reads S w0 L A vs) (hl : vs.length = m) (h1 : ∀ u ∈ vs, u.oneCell' = true) (ho : o + min m dl ≤ c.length) (hd : dstOk n (some d) = true)
    (h : VL P n S w0 ops Q rest ((d, vN (min m dl)) :: env) (L.set k (.blk b T (splice c o (vs.take (min m dl)))))) :
    VL P n S w0 ops Q ({ dst := some d, op := .call { callee := .builtin .copy, args := #[s, x], argTypes := #[t, tx] }, type := ty, pos, after := af, guard := none } :: rest) env L :=
  vl_run trivial fun a w hm H => by
    have hb := H.blk hk
    have hr := hA w H
    cases hq : P.info? e with
    | none => simp [hq] at hi
    | some i =>
      have hsz : i.size = 1 := by simpa [hq] using hi
      have hc : (Builtin.firstCells 1 (min m dl) (.slice A m cx)).run P w = .ok (vs.take (min m dl)).toArray w := by
        cases A with
        | none =>
          have : vs = [] := by
            cases vs with
            | nil => rfl
            | cons v r => obtain ⟨a', e', _⟩ := hr 0 v rfl; cases e'
          subst this
          have : m = 0 := by simpa using hl.symm
          subst this
          simp [Builtin.firstCells]
        | some ad =>
          have hlo := run_loadCells_list (P := P) w ad (vs.take (min m dl)) (fun j v hv => (hr.take _).get hv)
          have hlen : (vs.take (min m dl)).length = min m dl := by rw [List.length_take]; omega
          rw [hlen] at hlo
          simpa [Builtin.firstCells] using hlo
      have hlen : (vs.take (min m dl)).length = min m dl := by rw [List.length_take]; omega
      have hst := run_storeCells_blk P hb o (vs.take (min m dl)) (by rw [hlen]; exact ho) (fun u hu => h1 u (List.mem_of_mem_take hu))
      refine opw_val (v := vN (min m dl)) (w' := w.setRow b (splice c o (vs.take (min m dl))).toArray) ?_ ?_
      · simp [execOp, resolve, invoke, builtin, Builtin.copy_, run_underlying hu, hm.eval hs, hm.eval hx, Builtin.lenOf, sizeOf, typeInfo, hq, hsz, hc, hst, goInt, Nat.min_def]
        have e2 : (if m ≤ dl then m else dl) = min m dl := rfl
        simp only [← Nat.min_def] at *
        simp [hc, hst]
      · exact h.run _ _ (hm.put hd _) (H.change hk (grownBy_setRow w b _) (setRow_blk hb (length_splice _ _ _ (by rw [hlen]; exact ho))) (fun b' hb' => .inl hb'))
theorem l_boxA {e : TypeId} {x : Operand} {c : List Value} (hx : evalE env x = some (.agg c.toArray)) (hd : dstOk n (some d) = true) (h : ∀ b, VL P n S w0 ops Q rest ((d, vP b 0) :: env) (.blk b e c :: L)) :
    VL P n S w0 ops Q ({ dst := some d, op := .box e x, type := ty, pos, after := af, guard := none } :: rest) env L := l_box hx rfl hd h
theorem l_allocA {e : TypeId} {c : List Value} (hi : (P.info? e).map (·.zero) = some (some (.agg c.toArray))) (hd : dstOk n (some d) = true) (h : ∀ b, VL P n S w0 ops Q rest ((d, vP b 0) :: env) (.blk b e c :: L)) :
    VL P n S w0 ops Q ({ dst := some d, op := .alloc e, type := ty, pos, after := af, guard := none } :: rest) env L := l_alloc hi rfl hd h
theorem l_storeA {t : TypeId} {x y : Operand} {b sz : Nat} {T : TypeId} {c vs : List Value} (k : Nat) (hx : evalE env x = some (vP b 0)) (hy : evalE env y = some (.agg vs.toArray)) (hk : L[k]? = some (.blk b T c)) (hi : (P.info? t).map (·.size) = some sz) (hs : vs.length = sz) (h1 : ∀ u ∈ vs, u.oneCell' = true) (hl : c.length = sz)
    (h : VL P n S w0 ops Q rest env (L.set k (.blk b T vs))) : VL P n S w0 ops Q ({ dst := none, op := .store t x y, type := ty, pos, after := af, guard := none } :: rest) env L :=
  l_storeAll k hx hy hk hi rfl hs h1 hl h
theorem one_all {c : List Value} (h : (c.all fun v => v.oneCell') = true) : ∀ v ∈ c, v.oneCell' = true := fun v hv => List.all_eq_true.1 h v hv
theorem qv_v {F : Env → Prop} {op : Op} {f : Value} (hq : QT P n S w0 { dst := some d, op, type := ty, pos, after := af, guard := none } env L (.val f)) (h : quietsV P n S w0 ops L F rest ((d, f) :: env)) :
    quietsV P n S w0 ops L F ({ dst := some d, op, type := ty, pos, after := af, guard := none } :: rest) env := ⟨f, .inl ⟨trivial, hq⟩, h⟩
theorem qv_vg {F : Env → Prop} {op : Op} {f : Value} (hg : Met ops env g) (hq : QT P n S w0 { dst := some d, op, type := ty, pos, after := af, guard := g } env L (.val f)) (h : quietsV P n S w0 ops L F rest ((d, f) :: env)) :
    quietsV P n S w0 ops L F ({ dst := some d, op, type := ty, pos, after := af, guard := g } :: rest) env := ⟨f, .inl ⟨hg, hq⟩, h⟩
theorem qv_skip {F : Env → Prop} {op : Op} (hu : Unmet ops env g) (h : quietsV P n S w0 ops L F rest ((d, undef) :: env)) :
    quietsV P n S w0 ops L F ({ dst := some d, op, type := ty, pos, after := af, guard := g } :: rest) env := ⟨undef, .inr ⟨hu, rfl⟩, h⟩
theorem qv_end {F : Env → Prop} (h : F env) : quietsV P n S w0 ops L F [] env := h
section
variable {F : ((Nat → Value) → Env) → Ak → Prop} {k : Nat} {C : List Nat} {Cs : List (List Nat)} {E : (Nat → Value) → Env} {A : Ak} {op : Op}
theorem qm_v {f : Value} (hq : ∀ xs : Nat → Value, factsA C xs A → QT P n S w0 { dst := some d, op, type := ty, pos, after := af, guard := none } (E xs) (resA C xs A ++ L) (.val f))
    (h : quietsM P n S w0 ops L F (k + 1) rest Cs (fun xs => (d, f) :: E xs) A) : quietsM P n S w0 ops L F k ({ dst := some d, op, type := ty, pos, after := af, guard := none } :: rest) (C :: Cs) E A :=
  ⟨.val [] fun _ => f, rfl, fun xs hx => .inl ⟨trivial, hq xs hx⟩, by rw [show A ++ (SpX.val [] fun _ => f).ak k = A from List.append_nil A]; exact h⟩
theorem qm_a {Fv : Value → Prop} {N : Value → List Res} (hq : ∀ xs : Nat → Value, factsA C xs A → QT P n S w0 { dst := some d, op, type := ty, pos, after := af, guard := none } (E xs) (resA C xs A ++ L) (.any Fv N))
    (h : quietsM P n S w0 ops L F (k + 1) rest Cs (fun xs => (d, xs k) :: E xs) (A ++ [(k, [], fun _ => Fv, fun _ => N)])) : quietsM P n S w0 ops L F k ({ dst := some d, op, type := ty, pos, after := af, guard := none } :: rest) (C :: Cs) E A :=
  ⟨.any [] (fun _ => Fv) (fun _ => N), rfl, fun xs hx => .inl ⟨trivial, hq xs hx⟩, h⟩
end
def tupAt (v : Value) (i : Nat) : Value := match v with | .tuple vs => (vs[i]?).getD undef | _ => undef
theorem qm_end {F : ((Nat → Value) → Env) → Ak → Prop} {k : Nat} {Cs : List (List Nat)} {E : (Nat → Value) → Env} {A : Ak} (h : F E A) : quietsM P n S w0 ops L F k [] Cs E A := h
/-! ### calls that tell new rows -/
def isSl (m : Nat) (v : Value) : Prop := ∃ A c, v = .slice A m c ∧ m ≤ c ∧ c ≤ maxLen
theorem q_callR {f : FuncId} {fn : Func} {xs : Array Operand} {ats : Array TypeId} {args : List Value} {T : TypeId} {size m : Nat} {cs : List Value} (hf : P.funcs[f]? = some fn) (hb : fn.body.isSome = true) (hn : (fn.name == "runtime.NumGoroutine") = false) (hx : evalsE env xs.toList = some args)
    (hc : ∀ w, St S w0 L w → Calls P f args.toArray w (fun e w' => ∃ v, e = .returned v ∧ St [] w [.row T size v m cs] w')) :
    QT P n S w0 { dst := some d, op := .call { callee := .value (.func f), args := xs, argTypes := ats }, type := ty, pos, after := af, guard := g } env L (.any (isSl m) (nRow T size m cs)) :=
  q_call (s := .any (isSl m) (nRow T size m cs)) hf hb hn hx fun w H => (hc w H).mono fun e w' ⟨v, h1, h2⟩ => ⟨v, h1, by
    obtain ⟨A, c, h3, h4, h5, _⟩ := Row.slice (h2.get (k := 0) rfl)
    exact ⟨A, c, h3, h4, h5⟩, h2⟩
theorem l_callR {f : FuncId} {fn : Func} {xs : Array Operand} {ats : Array TypeId} {args : List Value} {T : TypeId} {size m : Nat} {cs : List Value} (hf : P.funcs[f]? = some fn) (hb : fn.body.isSome = true) (hn : (fn.name == "runtime.NumGoroutine") = false) (hx : evalsE env xs.toList = some args)
    (hc : ∀ w, St S w0 L w → Calls P f args.toArray w (fun e w' => ∃ v, e = .returned v ∧ St [] w [.row T size v m cs] w')) (hd : dstOk n (some d) = true)
    (h : ∀ A c, m ≤ c → c ≤ maxLen → VL P n S w0 ops Q rest ((d, .slice A m c) :: env) (.row T size (.slice A m c) m cs :: L)) :
    VL P n S w0 ops Q ({ dst := some d, op := .call { callee := .value (.func f), args := xs, argTypes := ats }, type := ty, pos, after := af, guard := none } :: rest) env L :=
  vl_q (q_callR hf hb hn hx hc) trivial hd (by rintro v ⟨A, c, rfl, h1, h2⟩; exact h A c h1 h2)
theorem row_sl {S : List Nat} {w0 w : World} {L : List Res} {T : TypeId} {size m : Nat} {v : Value} {cs : List Value} (H : St S w0 L w) (k : Nat) (hk : L[k]? = some (.row T size v m cs)) : ∃ A c, v = .slice A m c ∧ m ≤ c ∧ c ≤ maxLen ∧ SlAt w A cs := Row.slice (H.get hk)
/-! ### what is read through a slice -/
def ptrOf (A : Option Addr) (m : Nat) : Value := .pointer (some ((A.getD ⟨0, 0, none⟩).add m))
theorem SlAt.some {w : World} {A : Option Addr} {vs : List Value} (h : SlAt w A vs) (hl : 0 < vs.length) : ∃ ad, A = some ad := by
  obtain ⟨a, e, _⟩ := h 0 _ (List.getElem?_eq_getElem hl)
  exact ⟨a, e⟩
theorem q_idxRd {t e : TypeId} {x y : Operand} {k : IntKind} {len cap m : Nat} {A : Option Addr} {vs : List Value} (hu : P.underlying t = some (.slice e)) (hi : (P.info? e).map (·.size) = some 1) (hx : evalE env x = some (.slice A len cap)) (hy : evalE env y = some (.int k (m : Int))) (hm : m < len) (hr : Reads S w0 L A vs) (hl : m < vs.length) :
    QT P n S w0 { dst := some d, op := .indexAddr t x y, type := ty, pos, after := af, guard := g } env L (.val (ptrOf A m)) :=
  ⟨fun a w hmo H => by
    obtain ⟨ad, rfl⟩ := (hr w H).some (by omega)
    exact (q_idxS1 hu hi hx hy hm).run a w hmo H⟩
theorem q_loadRd {t : TypeId} {dd : TypeDesc} {x : Operand} {A : Option Addr} {m : Nat} {vs : List Value} {v : Value} (hu : P.underlying t = some dd) (hd : (match dd with | .struct _ | .array _ _ => true | _ => false) = false) (hx : evalE env x = some (ptrOf A m)) (hr : Reads S w0 L A vs) (hc : vs[m]? = some v) :
    QT P n S w0 { dst := some d, op := .load t x, type := ty, pos, after := af, guard := g } env L (.val v) :=
  ⟨fun a w hmo H => by
    have hml := (List.getElem?_eq_some_iff.1 hc).1
    obtain ⟨ad, rfl⟩ := (hr w H).some (by omega)
    exact (q_loadR hu hd hx hr hc).run a w hmo H⟩
/-- a written-out slice as numbers -/
theorem q_litA {t e : TypeId} {m bytes : Nat} {pr : Array (Nat × Operand)} {z : Value} {vs cs : List Value} (hu : P.underlying t = some (.slice e)) (hi : (P.info? e).map (fun i => (i.zero, i.size, i.bytes)) = some (some z, 1, bytes)) (hsm : m ≤ 16777216) (hz : z.oneCell' = true)
    (hp : evalsE env (pr.toList.map (·.2)) = some vs) (hm : vs.length = m) (hi2 : pr.toList.map (·.1) = List.range m) (h1 : ∀ v ∈ vs, v.oneCell' = true) (hcs : vs = cs) :
    QT P n S w0 { dst := some d, op := .buildSlice t m pr, type := ty, pos, after := af, guard := g } env L (.any (fun u => ∃ b, u = .slice (some ⟨b, 0, none⟩) m m) (nRow e 1 m cs)) := by
  subst hcs
  have hfill : ∀ (vs : List Value) (k : Nat) (c : List Value), k + vs.length ≤ c.length → fillL c ((List.range' k vs.length).zip vs) = c.take k ++ vs ++ c.drop (k + vs.length) := by
    intro vs
    induction vs with
    | nil => intro k c _; simp [fillL]
    | cons v vs ih =>
      intro k c hk
      simp only [List.length_cons] at hk
      show fillL c ((List.range' k (vs.length + 1)).zip (v :: vs)) = _
      rw [List.range'_succ, List.zip_cons_cons, fillL, ih (k + 1) (c.set k v) (by simp; omega)]
      have e1 : (c.set k v).take (k + 1) = c.take k ++ [v] := by
        rw [List.take_succ_eq_append_getElem (by simp; omega), List.take_set_of_le (by omega)]
        simp
      have e2 : (c.set k v).drop (k + 1 + vs.length) = c.drop (k + (vs.length + 1)) := by
        rw [List.drop_set_of_lt (by omega)]
        congr 1
        omega
      rw [e1, e2]
      simp
  have hps : ((List.range m).zip vs).map (·.2) = vs := by rw [List.map_snd_zip]; simp [hm]
  have hps1 : ((List.range m).zip vs).map (·.1) = List.range m := by rw [List.map_fst_zip]; simp [hm]
  have hfin := hfill vs 0 (List.replicate m z) (by simp [hm])
  rw [hm, ← List.range_eq_range'] at hfin
  have hq := q_lit (n := n) (S := S) (w0 := w0) (L := L) (d := d) (ty := ty) (pos := pos) (af := af) (g := g) (ps := (List.range m).zip vs) hu hi hsm hz (by rw [hps]; exact hp) (by rw [hps1]; exact hi2) (by
    intro p hp'
    have h2 := List.of_mem_zip hp'
    exact ⟨h1 p.2 h2.2, List.mem_range.1 h2.1⟩)
  rw [hfin] at hq
  simpa using hq
theorem l_litA {t e : TypeId} {m bytes : Nat} {pr : Array (Nat × Operand)} {z : Value} {vs cs : List Value} (hu : P.underlying t = some (.slice e)) (hi : (P.info? e).map (fun i => (i.zero, i.size, i.bytes)) = some (some z, 1, bytes)) (hsm : m ≤ 16777216) (hz : z.oneCell' = true)
    (hp : evalsE env (pr.toList.map (·.2)) = some vs) (hm : vs.length = m) (hi2 : pr.toList.map (·.1) = List.range m) (h1 : ∀ v ∈ vs, v.oneCell' = true) (hcs : vs = cs) (hd : dstOk n (some d) = true)
    (h : ∀ b, VL P n S w0 ops Q rest ((d, .slice (some ⟨b, 0, none⟩) m m) :: env) (.row e 1 (.slice (some ⟨b, 0, none⟩) m m) m cs :: L)) :
    VL P n S w0 ops Q ({ dst := some d, op := .buildSlice t m pr, type := ty, pos, after := af, guard := none } :: rest) env L :=
  vl_q (q_litA hu hi hsm hz hp hm hi2 h1 hcs) trivial hd (by rintro v ⟨b, rfl⟩; exact h b)
/-! ### calls that tell a new row and something else -/
theorem tupAt_0 (a b : Value) : tupAt (.tuple #[a, b]) 0 = a := rfl
theorem tupAt_1 (a b : Value) : tupAt (.tuple #[a, b]) 1 = b := rfl
def isSlT (m : Nat) (u v : Value) : Prop := ∃ A c, v = .tuple #[.slice A m c, u] ∧ m ≤ c ∧ c ≤ maxLen
def nRowT (e : TypeId) (size m : Nat) (xs : List Value) (v : Value) : List Res := [.row e size (tupAt v 0) m xs]
theorem q_callT {f : FuncId} {fn : Func} {xs : Array Operand} {ats : Array TypeId} {args : List Value} {T : TypeId} {size m : Nat} {cs : List Value} {u : Value} (hf : P.funcs[f]? = some fn) (hb : fn.body.isSome = true) (hn : (fn.name == "runtime.NumGoroutine") = false) (hx : evalsE env xs.toList = some args)
    (hc : ∀ w, St S w0 L w → Calls P f args.toArray w (fun e w' => ∃ v, e = .returned (.tuple #[v, u]) ∧ St [] w [.row T size v m cs] w')) :
    QT P n S w0 { dst := some d, op := .call { callee := .value (.func f), args := xs, argTypes := ats }, type := ty, pos, after := af, guard := g } env L (.any (isSlT m u) (nRowT T size m cs)) :=
  q_call (s := .any (isSlT m u) (nRowT T size m cs)) hf hb hn hx fun w H => (hc w H).mono fun e w' ⟨v, h1, h2⟩ => ⟨.tuple #[v, u], h1, by
    have hrow : Res.ok w' (.row T size v m cs) := h2.get (k := 0) rfl
    obtain ⟨A, c, h3, h4, h5, _⟩ := Row.slice hrow
    exact ⟨A, c, by rw [h3], h4, h5⟩, h2⟩
theorem l_callT {f : FuncId} {fn : Func} {xs : Array Operand} {ats : Array TypeId} {args : List Value} {T : TypeId} {size m : Nat} {cs : List Value} {u : Value} (hf : P.funcs[f]? = some fn) (hb : fn.body.isSome = true) (hn : (fn.name == "runtime.NumGoroutine") = false) (hx : evalsE env xs.toList = some args)
    (hc : ∀ w, St S w0 L w → Calls P f args.toArray w (fun e w' => ∃ v, e = .returned (.tuple #[v, u]) ∧ St [] w [.row T size v m cs] w')) (hd : dstOk n (some d) = true)
    (h : ∀ A c, m ≤ c → c ≤ maxLen → VL P n S w0 ops Q rest ((d, .tuple #[.slice A m c, u]) :: env) (.row T size (.slice A m c) m cs :: L)) :
    VL P n S w0 ops Q ({ dst := some d, op := .call { callee := .value (.func f), args := xs, argTypes := ats }, type := ty, pos, after := af, guard := none } :: rest) env L :=
  vl_q (q_callT hf hb hn hx hc) trivial hd (by rintro v ⟨A, c, rfl, h1, h2⟩; exact h A c h1 h2)
theorem q_true {o : Oper} {b : Bool} (hq : QT P n S w0 o env L (.val (.bool b))) (h : b = true) : QT P n S w0 o env L (.val (.bool true)) := h ▸ hq
theorem q_false {o : Oper} {b : Bool} (hq : QT P n S w0 o env L (.val (.bool b))) (h : b = false) : QT P n S w0 o env L (.val (.bool false)) := h ▸ hq
theorem q_as {o : Oper} {u v : Value} (hq : QT P n S w0 o env L (.val u)) (h : u = v) : QT P n S w0 o env L (.val v) := h ▸ hq
theorem repB (m : Nat) : List.replicate m (Value.int .u8 0) = bys (List.replicate m 0) := by simp [bys]
theorem l_makeZ {t e : TypeId} {l c : Operand} {z : Value} {bytes m : Nat} {kl kc : IntKind} {cs : List Value} (hu : P.underlying t = some (.slice e)) (hi : (P.info? e).map (fun i => (i.zero, i.size, i.bytes)) = some (some z, 1, bytes)) (hz : z.oneCell' = true)
    (hl : evalE env l = some (.int kl (m : Int))) (hc : evalE env c = some (.int kc (m : Int))) (hb : bytes * m ≤ 281474976710656) (hm : m ≤ maxLen) (hd : dstOk n (some d) = true) (hcs : List.replicate m z = cs)
    (h : ∀ b, VL P n S w0 ops Q rest ((d, .slice (some ⟨b, 0, none⟩) m m) :: env) (.blk b e cs :: L)) :
    VL P n S w0 ops Q ({ dst := some d, op := .makeSlice t l c, type := ty, pos, after := af, guard := none } :: rest) env L :=
  l_make hu hi hz hl hc hb hm hd (hcs ▸ h)
/-! ### short names for lengths -/
theorem zb (l : List UInt8) : (bys l).length = l.length := bys_length l
theorem zu (l : List UInt32) : (u32s l).length = l.length := u32s_length l
theorem zw (l : List UInt64) : (u64s l).length = l.length := u64s_length l
theorem zi (l : List Int) : (i64s l).length = l.length := i64s_length l
theorem zs {α : Type} {l : List α} {i : Nat} {a : α} : (l.set i a).length = l.length := List.length_set
theorem zr {α : Type} {n : Nat} {a : α} : (List.replicate n a).length = n := List.length_replicate
theorem zm {α β : Type} {l : List α} (f : α → β) : (l.map f).length = l.length := List.length_map f
theorem za {α : Type} {l m : List α} : (l ++ m).length = l.length + m.length := List.length_append
theorem zt {α : Type} {l : List α} {i : Nat} : (l.take i).length = min i l.length := List.length_take
theorem zd {α : Type} {l : List α} {i : Nat} : (l.drop i).length = l.length - i := List.length_drop
theorem zc {α : Type} {a : α} {l : List α} : (a :: l).length = l.length + 1 := List.length_cons
theorem zn {α : Type} : ([] : List α).length = 0 := List.length_nil
end
end Go.PBYtadaihpeionniaa
end
section
namespace Go.PBYtadaihpeionniaa
open Go Go.RowKit
set_option linter.unusedSimpArgs false
set_option linter.unusedVariables false
section
variable {P : Program} {n : Nat} {S : List Nat} {w0 : World} {ops : Array Oper} {Q : QE} {rest : List Oper} {d : Tmp} {ty : TypeId} {pos : String} {af : Array Edge} {g : Option (Nat × Bool)} {env : Env} {L : List Res}
/-! ### function values that hold variables -/
end
/-! ### slices that are written out, of elements of several cells -/
theorem foldSet : ∀ (v : List Value) (k off : Nat) (cs : List Value), off + k + v.length ≤ cs.length → (v.zipIdx k).foldl (fun (cs : Array Value) (p : Value × Nat) => cs.setIfInBounds (off + p.2) p.1) cs.toArray = (cs.take (off + k) ++ v ++ cs.drop (off + k + v.length)).toArray
  | [], k, off, cs, h => by simp
  | x :: r, k, off, cs, h => by
    simp only [List.length_cons] at h
    rw [List.zipIdx_cons, List.foldl_cons]
    have e1 : cs.toArray.setIfInBounds (off + k) x = (cs.set (off + k) x).toArray := by simp
    simp only [e1]
    rw [foldSet r (k + 1) off (cs.set (off + k) x) (by simp; omega)]
    have e2 : (cs.set (off + k) x).take (off + (k + 1)) = cs.take (off + k) ++ [x] := by
      rw [show off + (k + 1) = off + k + 1 by omega, List.take_succ_eq_append_getElem (by simp; omega), List.take_set_of_le (by omega)]
      simp
    have e3 : (cs.set (off + k) x).drop (off + (k + 1) + r.length) = cs.drop (off + k + (x :: r).length) := by
      rw [List.drop_set_of_lt (by omega)]
      congr 1
      simp
      omega
    rw [e2, e3]
    simp
theorem fillG (size : Nat) : ∀ (vs : List (List Value)) (k : Nat) (c : List Value), (∀ v ∈ vs, v.length = size) → (k + vs.length) * size ≤ c.length →
    Instr.fill (fun i => some (i * size, size)) c.toArray ((List.range' k vs.length).zip (vs.map fun v => Value.agg v.toArray)) = some (c.take (k * size) ++ vs.flatten ++ c.drop ((k + vs.length) * size)).toArray
  | [], k, c, _, _ => by simp [Instr.fill]
  | v :: r, k, c, hv, h => by
    have hvl := hv v (by simp)
    simp only [List.length_cons] at h ⊢
    have h2 : k * size + size ≤ c.length := by
      have : (k + (r.length + 1)) * size = k * size + size + r.length * size := by rw [Nat.add_mul, Nat.add_mul]; omega
      omega
    rw [List.range'_succ, List.map_cons, List.zip_cons_cons]
    have hcells : (Value.agg v.toArray).cells = v.toArray := rfl
    simp only [Instr.fill, hcells]
    rw [if_neg (by simp [hvl]; omega)]
    have hf := foldSet v 0 (k * size) c (by omega)
    have e0 : (v.toArray.zipIdx.foldl (fun (cs : Array Value) (x : Value × Nat) => match x with | (c, j) => cs.setIfInBounds (k * size + j) c) c.toArray) = (c.take (k * size) ++ v ++ c.drop (k * size + size)).toArray := by
      rw [← Array.foldl_toList, Array.toList_zipIdx]
      rw [Nat.add_zero, hvl] at hf
      exact hf
    rw [e0]
    have hcl : (c.take (k * size) ++ v ++ c.drop (k * size + size)).length = c.length := by simp [hvl]; omega
    rw [fillG size r (k + 1) _ (fun u hu => hv u (by simp [hu])) (by rw [hcl]; rw [show k + 1 + r.length = k + (r.length + 1) by omega]; exact h)]
    have hk1 : (k + 1) * size = k * size + size := by rw [Nat.add_mul, Nat.one_mul]
    have hlt : (c.take (k * size)).length = k * size := by simp; omega
    have e1 : (c.take (k * size) ++ v ++ c.drop (k * size + size)).take ((k + 1) * size) = c.take (k * size) ++ v := by
      rw [List.take_append_of_le_length (by simp [hvl]; omega), List.take_of_length_le (by simp [hvl]; omega)]
    have e2 : (c.take (k * size) ++ v ++ c.drop (k * size + size)).drop ((k + 1 + r.length) * size) = c.drop ((k + (r.length + 1)) * size) := by
      have h3 : (k + 1 + r.length) * size = k * size + size + r.length * size := by rw [Nat.add_mul, Nat.add_mul]; omega
      have h4 : (k + (r.length + 1)) * size = k * size + size + r.length * size := by rw [Nat.add_mul, Nat.add_mul]; omega
      rw [h3, h4, List.drop_append, List.drop_eq_nil_of_le (by simp [hvl]; omega), List.nil_append, List.drop_drop]
      congr 1
      simp [hvl]
      omega
    rw [e1, e2]
    simp
section
variable {P : Program} {n : Nat} {S : List Nat} {w0 : World} {ops : Array Oper} {Q : QE} {rest : List Oper} {d : Tmp} {ty : TypeId} {pos : String} {af : Array Edge} {g : Option (Nat × Bool)} {env : Env} {L : List Res}
theorem q_litG {t e : TypeId} {m size bytes : Nat} {pr : Array (Nat × Operand)} {z : Value} (vs : List (List Value)) (hu : P.underlying t = some (.slice e)) (hi : (P.info? e).map (fun i => (i.zero, i.size, i.bytes)) = some (some z, size, bytes)) (hsm : m * size ≤ 16777216) (hsz : 0 < size)
    (hp : evalsE env (pr.toList.map (·.2)) = some (vs.map fun v => Value.agg v.toArray)) (hm : vs.length = m) (hi2 : pr.toList.map (·.1) = List.range m) (h1 : ∀ v ∈ vs, v.length = size) :
    QT P n S w0 { dst := some d, op := .buildSlice t m pr, type := ty, pos, after := af, guard := g } env L (.any (fun u => ∃ b, u = .slice (some ⟨b, 0, none⟩) m m) (nRow e size m vs.flatten)) :=
  ⟨fun a w hmo H => by
    have hps : (pr.map fun (i, x) => (i, a.eval x)).toList = (List.range' 0 vs.length).zip (vs.map fun v => Value.agg v.toArray) := by
      have h2 := hmo.evals hp
      rw [List.map_map] at h2
      rw [← h2, hm, ← List.range_eq_range', ← hi2, Array.toList_map]
      rw [List.zip_map']
      rfl
    refine opw_lit vs.flatten (St.refl w) hu hi hsm ?_ ?_ ?_ fun w' b H' => ⟨_, rfl, fun h => by simp at h, ⟨b, rfl⟩, H'⟩
    · rw [hps]
      have hz : (if m * size = 0 then #[] else (Array.range (m * size)).map (z.cells[· % z.cells.size]!)) = ((List.range (m * size)).map (z.cells[· % z.cells.size]!)).toArray := by
        split
        · rename_i h0; rw [h0]; rfl
        · apply Array.ext'; simp
      rw [hz, fillG size vs 0 _ h1 (by simp [hm])]
      simp [hm]
    · have : ∀ l : List (List Value), (∀ v ∈ l, v.length = size) → l.flatten.length = l.length * size := by
        intro l
        induction l with
        | nil => intro _; simp
        | cons x r ih => intro h; rw [List.flatten_cons, List.length_append, ih (fun v hv => h v (by simp [hv])), h x (by simp), List.length_cons, Nat.add_mul]; omega
      rw [this vs h1, hm]
    · have : m ≤ m * size := Nat.le_mul_of_pos_right _ hsz
      simp only [maxLen]; omega⟩
theorem l_litG {t e : TypeId} {m size bytes : Nat} {pr : Array (Nat × Operand)} {z : Value} (vs : List (List Value)) (hu : P.underlying t = some (.slice e)) (hi : (P.info? e).map (fun i => (i.zero, i.size, i.bytes)) = some (some z, size, bytes)) (hsm : m * size ≤ 16777216) (hsz : 0 < size)
    (hp : evalsE env (pr.toList.map (·.2)) = some (vs.map fun v => Value.agg v.toArray)) (hm : vs.length = m) (hi2 : pr.toList.map (·.1) = List.range m) (h1 : ∀ v ∈ vs, v.length = size) (hd : dstOk n (some d) = true)
    (h : ∀ b, VL P n S w0 ops Q rest ((d, .slice (some ⟨b, 0, none⟩) m m) :: env) (.row e size (.slice (some ⟨b, 0, none⟩) m m) m vs.flatten :: L)) :
    VL P n S w0 ops Q ({ dst := some d, op := .buildSlice t m pr, type := ty, pos, after := af, guard := none } :: rest) env L :=
  vl_q (q_litG vs hu hi hsm hsz hp hm hi2 h1) trivial hd (by rintro v ⟨b, rfl⟩; exact h b)
end
/-! ### the bytes of a text, as a new row -/
/-! ### a scope through which no goto goes -/
def QScope (Q : QE) : QE
  | .goto _, _, _ => False
  | e, env, L => Q e env L
section
variable {P : Program} {n : Nat} {S : List Nat} {w0 : World} {Q : QE} {env : Env} {L : List Res}
theorem VC_scope {c : Code} (h : VC P n S w0 c (QScope Q) env L) : VC P n S w0 (.scope c) Q env L :=
  ⟨fun a w hm H => wp_scope_straight (wp_mono (h.run a w hm H) fun e a w ⟨env, L, h1, h2, h3⟩ => by
    cases e with
    | goto l => exact h3.elim
    | _ => exact ⟨env, L, h1, h2, h3⟩)⟩
theorem sc_r (h : Q .ret env L) : QScope Q .ret env L := h
end
end Go.PBYtadaihpeionniaa
end
section
namespace Go.PBYtadaihpeionniaa
open Go Go.RowKit
set_option linter.unusedSimpArgs false
set_option linter.unusedVariables false
def cellsL (v : Value) : List Value := v.cells.toList
def flatV (vs : List Value) : List Value := (vs.map cellsL).flatten
theorem cellsL_size (v : Value) : v.cells.size = (cellsL v).length := by simp [cellsL]
def plOk (pl : Nat → Option (Nat × Nat)) : Nat → Nat → List Value → Prop
  | _, _, [] => True
  | k, o, v :: r => pl k = some (o, (cellsL v).length) ∧ plOk pl (k + 1) (o + (cellsL v).length) r
theorem fillSeq (pl : Nat → Option (Nat × Nat)) : ∀ (vs : List Value) (k o : Nat) (c : List Value), plOk pl k o vs → o + (flatV vs).length ≤ c.length →
    Instr.fill pl c.toArray ((List.range' k vs.length).zip vs) = some (c.take o ++ flatV vs ++ c.drop (o + (flatV vs).length)).toArray
  | [], k, o, c, _, _ => by simp [Instr.fill, flatV]
  | v :: r, k, o, c, hp, h => by
    obtain ⟨hp1, hp2⟩ := hp
    have hfl : flatV (v :: r) = cellsL v ++ flatV r := rfl
    rw [hfl, List.length_append] at h
    rw [List.length_cons, List.range'_succ, List.zip_cons_cons]
    simp only [Instr.fill, hp1]
    rw [if_neg (by simp [cellsL_size]; omega)]
    have hf := foldSet (cellsL v) 0 o c (by omega)
    have e0 : (v.cells.zipIdx.foldl (fun (cs : Array Value) (x : Value × Nat) => match x with | (c, j) => cs.setIfInBounds (o + j) c) c.toArray) = (c.take o ++ cellsL v ++ c.drop (o + (cellsL v).length)).toArray := by
      rw [← Array.foldl_toList, Array.toList_zipIdx]
      rw [Nat.add_zero] at hf
      exact hf
    rw [e0]
    have hcl : (c.take o ++ cellsL v ++ c.drop (o + (cellsL v).length)).length = c.length := by simp; omega
    rw [fillSeq pl r (k + 1) (o + (cellsL v).length) _ hp2 (by rw [hcl]; omega)]
    have hlt : (c.take o).length = o := by simp; omega
    have e1 : (c.take o ++ cellsL v ++ c.drop (o + (cellsL v).length)).take (o + (cellsL v).length) = c.take o ++ cellsL v := by
      rw [List.take_append_of_le_length (by simp; omega), List.take_of_length_le (by simp; omega)]
    have e2 : (c.take o ++ cellsL v ++ c.drop (o + (cellsL v).length)).drop (o + (cellsL v).length + (flatV r).length) = c.drop (o + (flatV (v :: r)).length) := by
      rw [hfl, List.length_append, List.drop_append, List.drop_eq_nil_of_le (by simp; omega), List.nil_append, List.drop_drop]
      congr 1
      simp
      omega
    rw [e1, e2, hfl]
    simp
def placesS (P : Program) (t : TypeId) : Option (Nat × List (Nat × Nat)) :=
  match P.info? t, P.underlying t with
  | some it, some (.struct fields) =>
    match it.zero, fields.toList.mapM (fun f => (P.info? f.type).map fun i => (f.offset, i.size)) with
    | some z, some places => some ((cellsL z).length, places)
    | _, _ => none
  | _, _ => none
def seqs : Nat → List Nat → List (Nat × Nat)
  | _, [] => []
  | o, s :: r => (o, s) :: seqs (o + s) r
theorem plOk_seq : ∀ (vs : List Value) (k o : Nat) (pre places : List (Nat × Nat)), pre.length = k → places = pre ++ seqs o (vs.map fun v => (cellsL v).length) → plOk (fun i => places.toArray[i]?) k o vs
  | [], k, o, pre, places, _, _ => trivial
  | v :: r, k, o, pre, places, hk, h => by
    refine ⟨?_, plOk_seq r (k + 1) (o + (cellsL v).length) (pre ++ [(o, (cellsL v).length)]) places (by simp [hk]) (by rw [h]; simp [seqs])⟩
    subst hk
    rw [h]
    simp [seqs]
theorem flatV_length : ∀ vs : List Value, (flatV vs).length = (vs.map fun v => (cellsL v).length).sum
  | [] => rfl
  | v :: r => by
    have h := flatV_length r
    rw [show flatV (v :: r) = cellsL v ++ flatV r from rfl, List.length_append, h]
    rfl
theorem built_seq {P : Program} {t : TypeId} {tot : Nat} {places : List (Nat × Nat)} {vs : List Value} {sizes : List Nat} (hP : placesS P t = some (tot, places)) (hq : seqs 0 sizes = places) (ht : sizes.sum = tot) (hs : vs.map (fun v => (cellsL v).length) = sizes) :
    P.built t ((List.range vs.length).zip vs) = some (flatV vs).toArray := by
  unfold placesS at hP
  unfold Program.built
  cases hit : P.info? t with
  | none => simp [hit] at hP
  | some it =>
    cases hu : P.underlying t with
    | none => simp [hit, hu] at hP
    | some dd =>
      cases dd <;> try (simp [hit, hu] at hP; done)
      rename_i fields
      simp only [hit, hu] at hP ⊢
      cases hz : it.zero with
      | none => simp [hz] at hP
      | some z =>
        cases hm : fields.toList.mapM (fun f => (P.info? f.type).map fun i => (f.offset, i.size)) with
        | none => rw [hz, hm] at hP; simp at hP
        | some pl =>
          rw [hz, hm] at hP
          simp only [Option.some.injEq, Prod.mk.injEq] at hP
          obtain ⟨h1, h2⟩ := hP
          subst h2
          have hfl : (flatV vs).length = (cellsL z).length := by rw [flatV_length, hs, ht, h1]
          have h3 := fillSeq (fun i => pl.toArray[i]?) vs 0 0 (cellsL z) (plOk_seq vs 0 0 [] pl rfl (by rw [hs, hq]; rfl)) (by omega)
          simp only [hz]
          rw [List.range_eq_range']
          have e : z.cells = (cellsL z).toArray := by simp [cellsL]
          rw [e, h3]
          rw [Nat.zero_add, hfl]
          simp
section
variable {P : Program} {n : Nat} {S : List Nat} {w0 : World} {ops : Array Oper} {Q : QE} {rest : List Oper} {d : Tmp} {ty : TypeId} {pos : String} {af : Array Edge} {g : Option (Nat × Bool)} {env : Env} {L : List Res}
theorem q_buildS {t : TypeId} {pr : Array (Nat × Operand)} {tot : Nat} {places : List (Nat × Nat)} {vs : List Value} {sizes : List Nat} {c' : List Value} (hP : placesS P t = some (tot, places)) (hq : seqs 0 sizes = places) (ht : sizes.sum = tot)
    (hp : evalsE env (pr.toList.map (·.2)) = some vs) (hi : pr.toList.map (·.1) = List.range vs.length) (hs : vs.map (fun v => (cellsL v).length) = sizes) (hc : flatV vs = c') :
    QT P n S w0 { dst := some d, op := .build t pr, type := ty, pos, after := af, guard := g } env L (.val (.agg c'.toArray)) :=
  q_build (c' := c') hp (by rw [hi, ← hc]; exact built_seq hP hq ht hs)
/-- truths that are compared -/
theorem q_eqBo {T T' : TypeId} {x y : Operand} {p q : Bool} (hT : P.underlying T = some .bool) (hx : evalE env x = some (.bool p)) (hy : evalE env y = some (.bool q)) :
    QT P n S w0 { dst := some d, op := .binOp .eql T x y T', type := ty, pos, after := af, guard := g } env L (.val (.bool (p == q))) :=
  q_bin hx hy fun w => by
    have h1 : (Op.equal T (.bool p) (.bool q)).run P w = .ok (p == q) w := run_equalIn_bool w 9999 T p q hT
    have h2 : eqGuard .eql T x y (.bool p) (.bool q) = pure () := rfl
    have h3 : binOp .eql T (.bool p) (.bool q) = (do pure (.bool (← Op.equal T (.bool p) (.bool q)))) := by cases p <;> cases q <;> rfl
    rw [h2, h3]
    simp [h1]
end
end Go.PBYtadaihpeionniaa
end
section
namespace Go.PBYtadaihpeionniaa
open Go Go.RowKit
set_option linter.unusedSimpArgs false
set_option linter.unusedVariables false
abbrev Xs := Nat → Value
/-- what an operation comes to: a value; or any value, with a word of its own besides, of which a fact holds, and that own these -/
inductive PS where
  | val (f : Xs → Xs → Value)
  | any (F : Xs → Xs → Value → Value → Prop) (N : Xs → Xs → Value → Value → List Res)
def PS.fact : PS → Xs → Xs → Value → Value → Prop
  | .val f, xs, gs, v, _ => v = f xs gs
  | .any F _, xs, gs, v, g => F xs gs v g
def PS.cur : PS → Xs → Xs → Value → Value
  | .val f, xs, gs, _ => f xs gs
  | .any _ _, _, _, v => v
def PS.own : PS → Xs → Xs → Value → Value → List Res
  | .val _, _, _, _, _ => []
  | .any _ N, xs, gs, v, g => N xs gs v g
theorem PS.cur_eq {s : PS} {xs gs : Xs} {v g : Value} (h : s.fact xs gs v g) : s.cur xs gs v = v := by
  cases s with
  | val f => exact h.symm
  | any F N => rfl
def psAt : List PS → Nat → PS
  | [], _ => .val fun _ _ => undef
  | s :: r, k => match k with | 0 => s | k + 1 => psAt r k
def lAt : List (List Nat) → Nat → List Nat
  | [], _ => []
  | c :: r, k => match k with | 0 => c | k + 1 => lAt r k
def factP (sp : List PS) (Cs : List (List Nat)) (xs gs : Xs) (j : Nat) : Prop := (psAt sp j).fact (mask (lAt Cs j) xs) (mask (lAt Cs j) gs) (xs j) (gs j)
def curP (sp : List PS) (Cs : List (List Nat)) (xs gs : Xs) (j : Nat) : Value := (psAt sp j).cur (mask (lAt Cs j) xs) (mask (lAt Cs j) gs) (xs j)
def ownP (sp : List PS) (Cs : List (List Nat)) (xs gs : Xs) (j : Nat) : List Res := (psAt sp j).own (mask (lAt Cs j) xs) (mask (lAt Cs j) gs) (xs j) (gs j)
/-- those of what is owned at first -/
def selI (q : Nat → Bool) : Nat → List Res → List Res
  | _, [] => []
  | k, r :: L => match q k with | true => r :: selI q (k + 1) L | false => selI q (k + 1) L
/-- those of what the operations own -/
def selO (q : Nat → Bool) (ow : Nat → List Res) : Nat → Nat → List Res
  | _, 0 => []
  | k, m + 1 => match q k with | true => ow k ++ selO q ow (k + 1) m | false => selO q ow (k + 1) m
def takenB (T : List (List Nat)) (m : Nat) (D : Nat → Bool) (k : Nat) : Bool := (List.range m).any fun i => D i && (lAt T i).contains k
/-- nobody takes k before operation i is done, and operation i does not take it -/
def waitsB (T Cs : List (List Nat)) (m i k : Nat) : Bool := (List.range m).all fun i' => !(lAt T i').contains k || (lAt Cs i').contains i
def takesOk (m : Nat) (Cs TI TO : List (List Nat)) : Bool :=
  (List.range m).all fun i => ((lAt TO i).all fun j => (lAt Cs i).contains j) && ((lAt Cs i).all fun j => (lAt Cs j).all fun k => (lAt Cs i).contains k) &&
    (List.range m).all fun i' => i == i' || (((lAt TI i).all fun k => !(lAt TI i').contains k) && ((lAt TO i).all fun k => !(lAt TO i').contains k))
theorem selI_split {q a b : Nat → Bool} (h : ∀ k, q k = (a k || b k)) (hd : ∀ k, a k = true → b k = false) : ∀ (L : List Res) (k : Nat), (selI q k L).Perm (selI a k L ++ selI b k L)
  | [], k => .nil
  | r :: L, k => by
    have ih := selI_split h hd L (k + 1)
    unfold selI
    rw [h k]
    cases ha : a k with
    | true => rw [hd k ha]; exact .cons r ih
    | false =>
      cases hb : b k with
      | true => exact (ih.cons r).trans (List.perm_middle).symm
      | false => exact ih
theorem selO_split {q a b : Nat → Bool} {ow : Nat → List Res} (h : ∀ k, q k = (a k || b k)) (hd : ∀ k, a k = true → b k = false) : ∀ (m k : Nat), (selO q ow k m).Perm (selO a ow k m ++ selO b ow k m)
  | 0, k => .nil
  | m + 1, k => by
    have ih := selO_split (ow := ow) h hd m (k + 1)
    unfold selO
    rw [h k]
    cases ha : a k with
    | true =>
      rw [hd k ha]
      simp only [Bool.true_or, List.append_assoc]
      exact ih.append_left _
    | false =>
      cases hb : b k with
      | true =>
        simp only [Bool.or_true]
        refine (ih.append_left (ow k)).trans ?_
        rw [← List.append_assoc, ← List.append_assoc]
        exact List.perm_append_comm.append_right _
      | false => exact ih
theorem selO_congr {q q' : Nat → Bool} {ow ow' : Nat → List Res} : ∀ (m k : Nat), (∀ j, k ≤ j → j < k + m → q j = q' j ∧ (q j = true → ow j = ow' j)) → selO q ow k m = selO q' ow' k m
  | 0, k, _ => rfl
  | m + 1, k, h => by
    have ih := selO_congr m (k + 1) (fun j h1 h2 => h j (by omega) (by omega))
    unfold selO
    have hk := h k (Nat.le_refl _) (by omega)
    rw [← hk.1, ih]
    cases hq : q k with
    | true => simp only [hk.2 hq]
    | false => rfl
theorem selI_congr {q q' : Nat → Bool} (h : ∀ k, q k = q' k) (L : List Res) (k : Nat) : selI q k L = selI q' k L := by rw [show q = q' from funext h]
theorem selO_one {ow : Nat → List Res} {i : Nat} : ∀ (m k : Nat), k ≤ i → i < k + m → selO (fun j => j == i) ow k m = ow i
  | 0, k, h1, h2 => by omega
  | m + 1, k, h1, h2 => by
    unfold selO
    by_cases hk : k = i
    · subst hk
      have e : ∀ (m s : Nat), k < s → selO (fun j => j == k) ow s m = [] := by
        intro m
        induction m with
        | zero => intro s _; rfl
        | succ m ih =>
          intro s hs
          unfold selO
          rw [show (s == k) = false by simp; omega]
          exact ih (s + 1) (by omega)
      rw [e m (k + 1) (by omega)]
      simp
    · rw [show (k == i) = false by simp; exact hk]
      exact selO_one m (k + 1) (by omega) (by omega)
theorem perm6 {α : Type} (a b c d e f : List α) : ((a ++ (b ++ c)) ++ (d ++ (e ++ f))).Perm ((a ++ d) ++ ((b ++ e) ++ (c ++ f))) := by
  classical
  rw [List.perm_iff_count]
  intro x
  simp only [List.count_append]
  omega
theorem mask_mask {C C' : List Nat} {xs : Xs} (h : ∀ j ∈ C, j ∈ C') : mask C (mask C' xs) = mask C xs := by
  refine mask_congr fun j hj => ?_
  unfold mask
  rw [show C'.contains j = true by simpa using h j hj]
theorem mask_in {C : List Nat} {xs : Xs} {j : Nat} (h : j ∈ C) : mask C xs j = xs j := by
  unfold mask
  rw [show C.contains j = true by simpa using h]
/-- What an operation does that takes A, looks on at B, and leaves the rest. -/
structure QPT (P : Program) (n : Nat) (S : List Nat) (w0 : World) (o : Oper) (env : Env) (A B : List Res) (F : Value → Value → Prop) (N : Value → Value → List Res) : Prop where
  run : ∀ a w R, Models n env a → St S w0 (A ++ (B ++ R)) w → o.wp P a w (fun a' w' => ∃ v g, a' = a.put o.dst v ∧ (o.dst = none → v = undef) ∧ F v g ∧ St S w0 (N v g ++ (B ++ R)) w') noQ
/-- .. or it panics -/
structure QPX (P : Program) (n : Nat) (S : List Nat) (w0 : World) (Z : List PanicEntry → World → Prop) (o : Oper) (env : Env) (A B : List Res) : Prop where
  run : ∀ a w R, Models n env a → St S w0 (A ++ (B ++ R)) w → o.wp P a w (fun _ _ => False) (pQ Z)
def QPG (P : Program) (n : Nat) (S : List Nat) (w0 : World) (Z : List PanicEntry → World → Prop) (ops : Array Oper) (o : Oper) (env : Env) (A B : List Res) (F : Value → Value → Prop) (N : Value → Value → List Res) : Prop :=
  (Met ops env o.guard ∧ QPT P n S w0 o env A B F N) ∨ (Unmet ops env o.guard ∧ ∃ g, F undef g ∧ N undef g = A) ∨ (Met ops env o.guard ∧ QPX P n S w0 Z o env A B)
def envP (ops : Array Oper) (cv : Nat → Value) : List Nat → Env → Env
  | [], env => env
  | j :: r, env => envP ops cv r (ext ((ops[j]?).bind (·.dst)) (cv j) env)
theorem Models.envP {n : Nat} {ops : Array Oper} {cv : Nat → Value} (hd : ∀ (j : Nat) (o : Oper), ops[j]? = some o → dstOk n o.dst = true) :
    ∀ (W : List Nat) {env : Env} {a : Act}, Models n env a → Models n (envP ops cv W env) (frameOf ops cv W a)
  | [], env, a, h => h
  | j :: r, env, a, h => by
    refine Models.envP hd r (h.put ?_ _)
    cases hj : ops[j]? with
    | none => rfl
    | some o => simpa using hd j o hj
def stP (m : Nat) (Cs TI TO : List (List Nat)) (sp : List PS) (L : List Res) (D : Nat → Bool) (xs gs : Xs) : List Res :=
  selI (fun k => !takenB TI m D k) 0 L ++ selO (fun j => D j && !takenB TO m D j) (ownP sp Cs xs gs) 0 m
def preP (m : Nat) (Cs TI TO : List (List Nat)) (sp : List PS) (L : List Res) (i : Nat) (xs gs : Xs) : List Res :=
  selI (fun k => (lAt TI i).contains k) 0 L ++ selO (fun j => (lAt TO i).contains j) (ownP sp Cs xs gs) 0 m
def ctxP (m : Nat) (Cs TI TO : List (List Nat)) (sp : List PS) (L : List Res) (i : Nat) (xs gs : Xs) : List Res :=
  selI (fun k => waitsB TI Cs m i k) 0 L ++ selO (fun j => (lAt Cs i).contains j && waitsB TO Cs m i j) (ownP sp Cs xs gs) 0 m
theorem lAt_of {Cs : List (List Nat)} : ∀ {i : Nat} {C : List Nat}, Cs[i]? = some C → lAt Cs i = C := by
  induction Cs with
  | nil => intro i C h; simp at h
  | cons c r ih =>
    intro i C h
    cases i with
    | zero => simp at h; exact h
    | succ i => exact ih (by simpa using h)
section
variable {P : Program} {n : Nat} {S : List Nat} {w0 : World} {Q : QE} {env : Env} {L : List Res}
set_option maxHeartbeats 2000000 in
theorem VC_drawP {id : Nat} {l : List Oper} (m : Nat) (sp : List PS) (Ws Cs TI TO : List (List Nat)) (hmix : P.follows .mixedOrders = true)
    (hok : (orderly l.toArray n && tablesOk l.toArray m Ws Cs && takesOk m Cs TI TO && Nat.ble m l.length) = true)
    (hq : ∀ i o, i < m → l[i]? = some o → ∀ xs gs : Xs, (∀ j ∈ lAt Cs i, factP sp Cs xs gs j) →
      QPG P n S w0 (zQ S w0 Q) l.toArray o (envP l.toArray (curP sp Cs xs gs) (List.range i) env) (preP m Cs TI TO sp L i xs gs) (ctxP m Cs TI TO sp L i xs gs) ((psAt sp i).fact xs gs) ((psAt sp i).own xs gs))
    (hfin : ∀ xs gs : Xs, (∀ j, j < m → factP sp Cs xs gs j) → VL P n S w0 l.toArray (QN Q) (l.drop m) (envP l.toArray (curP sp Cs xs gs) (List.range m) env) (stP m Cs TI TO sp L (fun _ => true) xs gs)) :
    VC P n S w0 (.region id l.toArray true) Q env L := by
  simp only [Bool.and_eq_true] at hok
  obtain ⟨⟨⟨ho, ht⟩, htk⟩, hml⟩ := hok
  have hml := Nat.le_of_ble_eq_true hml
  refine ⟨fun a0 w hmod H => ?_⟩
  have hn := hmod.size
  have hlt : ∀ (i : Nat) (o : Oper), l.toArray[i]? = some o → ∀ j ∈ waits o, j < i := fun i o hi => (orderly_spec ho hi).1
  have hdst : ∀ (j : Nat) (o : Oper), l.toArray[j]? = some o → dstOk n o.dst = true := by
    intro j o hj
    cases hd : o.dst with
    | none => rfl
    | some d => exact Nat.ble_eq_true_of_le (((orderly_spec ho hj).2.1 d hd).1)
  have htab : ∀ (i : Nat) (o : Oper), l.toArray[i]? = some o → Cs[i]? = some (lAt Cs i) ∧ (∀ j ∈ waits o, j ∈ lAt Cs i) ∧ (∀ j ∈ lAt Cs i, j < i) ∧ (m ≤ i → ∀ j, j < i → j ∈ lAt Cs i) := by
    intro i o hi
    have ht' := ht
    simp only [tablesOk, Bool.and_eq_true, List.all_eq_true, List.mem_range] at ht'
    have hh := ht'.2 i (Array.getElem?_eq_some_iff.1 hi).1
    rw [hi] at hh
    cases hW : Ws[i]? with
    | none => rw [hW] at hh; simp at hh
    | some W =>
      cases hC : Cs[i]? with
      | none => rw [hW, hC] at hh; simp at hh
      | some C =>
        rw [hW, hC] at hh
        simp only [Bool.and_eq_true, List.all_eq_true, beq_iff_eq] at hh
        obtain ⟨⟨⟨⟨h0, h1⟩, h2⟩, h3⟩, h4⟩ := hh
        rw [lAt_of hC]
        refine ⟨rfl, fun j hj => by rw [h1] at hj; simpa using h2 j hj, fun j hj => Nat.le_of_ble_eq_true (h0 j hj), fun hmi j hj => ?_⟩
        rw [Nat.ble_eq_true_of_le hmi] at h4
        simp only [List.all_eq_true, List.mem_range] at h4
        simpa using h4 j hj
  have htake : ∀ i, i < m → (∀ j ∈ lAt TO i, j ∈ lAt Cs i) ∧ (∀ j ∈ lAt Cs i, ∀ k ∈ lAt Cs j, k ∈ lAt Cs i) ∧ (∀ i', i' < m → i ≠ i' → (∀ k ∈ lAt TI i, k ∉ lAt TI i') ∧ (∀ k ∈ lAt TO i, k ∉ lAt TO i')) := by
    intro i hi
    simp only [takesOk, List.all_eq_true, List.mem_range, Bool.and_eq_true, Bool.or_eq_true, beq_iff_eq] at htk
    obtain ⟨⟨h1, h2⟩, h3⟩ := htk i hi
    refine ⟨fun j hj => by simpa using h1 j hj, fun j hj k hk => by simpa using h2 j hj k hk, fun i' hi' hne => ?_⟩
    rcases h3 i' hi' with h | ⟨h4, h5⟩
    · exact absurd h hne
    · exact ⟨fun k hk => by simpa using h4 k hk, fun k hk => by simpa using h5 k hk⟩
  have hio' : ∀ i, i < l.length → ∃ o, l.toArray[i]? = some o := fun i hi => ⟨l[i], by simp [hi]⟩
  let Qf := lift n S w0 (QN Q)
  let C : (Nat → Bool) → (Nat → Value) → World → Prop := fun D xs w => ∃ gs : Xs,
    (∀ i, i < m → D i = true → factP sp Cs xs gs i) ∧
    ((D m = false ∧ St S w0 (stP m Cs TI TO sp L D xs gs) w) ∨
      ∃ t, 1 ≤ t ∧ m + t ≤ l.length ∧ (∀ i, m ≤ i → i < l.length → D i = decide (i < m + t)) ∧ wpList P l.toArray Qf (l.drop (m + t)) (frameOf l.toArray xs (List.range (m + t)) a0) w)
  have hcur : ∀ (xs gs : Xs) (j : Nat), factP sp Cs xs gs j → curP sp Cs xs gs j = xs j := fun xs gs j h => PS.cur_eq h
  -- the tail's beginning
  have hbegin : ∀ (D : Nat → Bool) (xs gs : Xs) (w : World), (∀ j, j < m → D j = true) → (∀ i, i < m → D i = true → factP sp Cs xs gs i) → St S w0 (stP m Cs TI TO sp L D xs gs) w →
      wpList P l.toArray Qf (l.drop m) (frameOf l.toArray xs (List.range m) a0) w := by
    intro D xs gs w hD hF Hs
    have hfs : ∀ j, j < m → factP sp Cs xs gs j := fun j hj => hF j hj (hD j hj)
    have ht1 : ∀ (T : List (List Nat)) (k : Nat), takenB T m D k = takenB T m (fun _ => true) k := by
      intro T k
      unfold takenB
      rw [Bool.eq_iff_iff, List.any_eq_true, List.any_eq_true]
      constructor
      · rintro ⟨i, hi, h⟩; exact ⟨i, hi, by simp only [Bool.and_eq_true] at h ⊢; exact ⟨trivial, h.2⟩⟩
      · rintro ⟨i, hi, h⟩; exact ⟨i, hi, by simp only [Bool.and_eq_true] at h ⊢; exact ⟨hD i (List.mem_range.1 hi), h.2⟩⟩
    have e : stP m Cs TI TO sp L D xs gs = stP m Cs TI TO sp L (fun _ => true) xs gs := by
      unfold stP
      rw [selI_congr (fun k => by rw [ht1 TI k]) L 0, selO_congr (q' := fun j => true && !takenB TO m (fun _ => true) j) m 0 (fun j _ hj => ⟨by rw [ht1 TO j, hD j (by omega)], fun _ => rfl⟩)]
    rw [e] at Hs
    have hfr : frameOf l.toArray xs (List.range m) a0 = frameOf l.toArray (curP sp Cs xs gs) (List.range m) a0 := frameOf_congr _ _ (fun j hj => (hcur xs gs j (hfs j (List.mem_range.1 hj))).symm)
    rw [hfr]
    exact (hfin xs gs hfs).run _ w (Models.envP hdst _ hmod) Hs
  -- where the tail stands
  have htail : ∀ (D : Nat → Bool) (xs : Nat → Value) (w : World) (i : Nat), m ≤ i → i ≤ l.length → (∀ j, j < i → D j = true) → (i < l.length → D i = false) → C D xs w →
      wpList P l.toArray Qf (l.drop i) (frameOf l.toArray xs (List.range i) a0) w := by
    intro D xs w i h1 h2 hD hi hC
    obtain ⟨gs, hF, hC⟩ := hC
    by_cases hmi : i = m
    · subst hmi
      rcases hC with ⟨_, Hs⟩ | ⟨t, ht1, ht2, ht3, _⟩
      · exact hbegin D xs gs w hD hF Hs
      · have := ht3 i (Nat.le_refl _) (by omega)
        rw [hi (by omega)] at this
        simp at this
        omega
    · rcases hC with ⟨hm0, _⟩ | ⟨t, ht1, ht2, ht3, hw⟩
      · rw [hD m (by omega)] at hm0; cases hm0
      · have ha := ht3 (i - 1) (by omega) (by omega)
        rw [hD (i - 1) (by omega)] at ha
        have ha' : i - 1 < m + t := by simpa using ha.symm
        have hb : m + t = i := by
          by_cases hil : i < l.length
          · have hb := ht3 i (by omega) hil
            rw [hi hil] at hb
            have hb' : ¬ (i < m + t) := by simpa using hb.symm
            omega
          · omega
        rw [hb] at hw
        exact hw
  refine wp_region_factsZ (C := C) (F := fun _ _ _ => True) (Z := zQ S w0 Q) hmix ho hn (fun ch a w hs hd ⟨M, h1, h2⟩ => ⟨[], M, ⟨hs, hd.trans hmod.defers, fun t v h => by cases h⟩, h1, h2 []⟩) (fun vs => ⟨fun _ => undef, fun i _ h => absurd h Bool.false_ne_true, .inl ⟨rfl, ?_⟩⟩) ?_ ?_
  · have e1 : ∀ k, takenB TI m (fun _ => false) k = false := by intro k; simp [takenB]
    have e2 : ∀ (L : List Res) (k : Nat), selI (fun k => !takenB TI m (fun _ => false) k) k L = L := by
      intro L
      induction L with
      | nil => intro k; rfl
      | cons r L ih => intro k; unfold selI; rw [e1 k]; simp only [Bool.not_false]; rw [ih (k + 1)]
    have e3 : ∀ (m' k : Nat), selO (fun j => false && !takenB TO m (fun _ => false) j) (ownP sp Cs vs fun _ => undef) k m' = [] := by
      intro m'
      induction m' with
      | zero => intro k; rfl
      | succ m' ih => intro k; unfold selO; exact ih (k + 1)
    unfold stP
    rw [e2, e3, List.append_nil]
    exact H.drew
  · intro i o hio D xs w hDi hDw hcl2 hC _
    have hil : i < l.length := by simpa using (Array.getElem?_eq_some_iff.1 hio).1
    obtain ⟨hCl, hWC, hCi, htl⟩ := htab i o hio
    have hClD : ∀ j ∈ lAt Cs i, D j = true := clos ht hlt hio hCl hDw hcl2
    -- those that are done wait for none that is not
    have hup : ∀ (k : Nat) (ok : Oper), l.toArray[k]? = some ok → D k = true → i ∉ lAt Cs k := by
      intro k ok hk hDk hin
      obtain ⟨hCk, _, _, _⟩ := htab k ok hk
      have := clos ht hlt hk hCk (hcl2 k ok hk hDk) hcl2 i hin
      rw [hDi] at this
      cases this
    by_cases him : i < m
    · obtain ⟨gs, hF, hCC⟩ := hC
      have hDm : D m = false ∧ St S w0 (stP m Cs TI TO sp L D xs gs) w := by
        rcases hCC with h | ⟨t, ht1, ht2, ht3, _⟩
        · exact h
        · exfalso
          have h0 := ht3 m (Nat.le_refl _) (by omega)
          have hDm : D m = true := by rw [h0]; simp; omega
          have hmo : l.toArray[m]? = some (l[m]'(by omega)) := by simp
          exact hup m _ hmo hDm ((htab m _ hmo).2.2.2 (Nat.le_refl _) i him)
      obtain ⟨hDm, Hs⟩ := hDm
      obtain ⟨hTO, hCC2, hTd⟩ := htake i him
      let xs' : Xs := mask (lAt Cs i) xs
      let gs' : Xs := mask (lAt Cs i) gs
      have hsame : ∀ j ∈ lAt Cs i, mask (lAt Cs j) xs' = mask (lAt Cs j) xs ∧ mask (lAt Cs j) gs' = mask (lAt Cs j) gs ∧ xs' j = xs j ∧ gs' j = gs j :=
        fun j hj => ⟨mask_mask (hCC2 j hj), mask_mask (hCC2 j hj), mask_in hj, mask_in hj⟩
      have hfact' : ∀ j ∈ lAt Cs i, factP sp Cs xs' gs' j := by
        intro j hj
        obtain ⟨a, b, c, d⟩ := hsame j hj
        unfold factP
        rw [a, b, c, d]
        exact hF j (by have := hCi j hj; omega) (hClD j hj)
      have hown' : ∀ j ∈ lAt Cs i, ownP sp Cs xs' gs' j = ownP sp Cs xs gs j := by
        intro j hj
        obtain ⟨a, b, c, d⟩ := hsame j hj
        unfold ownP
        rw [a, b, c, d]
      have hlo : l[i]? = some o := by simpa using hio
      have hobl := hq i o him hlo xs' gs' hfact'
      -- the frame
      let vs : Nat → Value := curP sp Cs xs' gs'
      have hvs : ∀ j ∈ waits o, xs j = vs j := by
        intro j hj
        have hj' := hWC j hj
        show xs j = curP sp Cs xs' gs' j
        rw [hcur xs' gs' j (hfact' j hj')]
        exact (hsame j hj').2.2.1.symm
      have hfw : frameOf l.toArray xs (waits o) a0 = frameOf l.toArray vs (waits o) a0 := frameOf_congr _ _ hvs
      obtain ⟨hex, hwa⟩ := wp_alike ho hn vs hio
      have hmw : Models n (envP l.toArray vs (List.range i) env) (frameOf l.toArray vs (List.range i) a0) := Models.envP hdst _ hmod
      -- what is owned
      have havI : ∀ k, (lAt TI i).contains k = true → takenB TI m D k = false := by
        intro k hk
        cases h : takenB TI m D k with
        | false => rfl
        | true =>
          unfold takenB at h
          obtain ⟨i', hi', h2⟩ := List.any_eq_true.1 h
          simp only [Bool.and_eq_true] at h2
          have hne : i ≠ i' := by rintro rfl; rw [hDi] at h2; cases h2.1
          exact absurd (by simpa using h2.2) (((hTd i' (List.mem_range.1 hi') hne).1) k (by simpa using hk))
      have havO : ∀ k, (lAt TO i).contains k = true → takenB TO m D k = false := by
        intro k hk
        cases h : takenB TO m D k with
        | false => rfl
        | true =>
          unfold takenB at h
          obtain ⟨i', hi', h2⟩ := List.any_eq_true.1 h
          simp only [Bool.and_eq_true] at h2
          have hne : i ≠ i' := by rintro rfl; rw [hDi] at h2; cases h2.1
          exact absurd (by simpa using h2.2) (((hTd i' (List.mem_range.1 hi') hne).2) k (by simpa using hk))
      have hwt : ∀ (T : List (List Nat)) (k : Nat), waitsB T Cs m i k = true → takenB T m D k = false ∧ (lAt T i).contains k = false := by
        intro T k hk
        simp only [waitsB, List.all_eq_true, List.mem_range, Bool.or_eq_true, Bool.not_eq_true'] at hk
        constructor
        · cases h : takenB T m D k with
          | false => rfl
          | true =>
            unfold takenB at h
            obtain ⟨i', hi', h2⟩ := List.any_eq_true.1 h
            simp only [Bool.and_eq_true] at h2
            rcases hk i' (List.mem_range.1 hi') with h3 | h3
            · rw [h3] at h2; cases h2.2
            · obtain ⟨o', ho'⟩ := hio' i' (by have := List.mem_range.1 hi'; omega)
              exact absurd (by simpa using h3) (hup i' o' ho' h2.1)
        · rcases hk i him with h3 | h3
          · exact h3
          · exact absurd (hCi i (by simpa using h3)) (Nat.lt_irrefl _)
      let rI : Nat → Bool := fun k => !takenB TI m D k && !(lAt TI i).contains k && !waitsB TI Cs m i k
      let rO : Nat → Bool := fun k => D k && !takenB TO m D k && !(lAt TO i).contains k && !((lAt Cs i).contains k && waitsB TO Cs m i k)
      let cI : Nat → Bool := fun k => waitsB TI Cs m i k
      let cO : Nat → Bool := fun k => (lAt Cs i).contains k && waitsB TO Cs m i k
      let pI : Nat → Bool := fun k => (lAt TI i).contains k
      let pO : Nat → Bool := fun k => (lAt TO i).contains k
      let RR : List Res := selI rI 0 L ++ selO rO (ownP sp Cs xs gs) 0 m
      have hpre : preP m Cs TI TO sp L i xs' gs' = selI pI 0 L ++ selO pO (ownP sp Cs xs gs) 0 m := by
        unfold preP
        rw [selO_congr (q' := pO) (ow' := ownP sp Cs xs gs) m 0 (fun j _ _ => ⟨rfl, fun h => hown' j (hTO j (by have h' : (lAt TO i).contains j = true := h; simpa using h'))⟩)]
      have hctx : ctxP m Cs TI TO sp L i xs' gs' = selI cI 0 L ++ selO cO (ownP sp Cs xs gs) 0 m := by
        unfold ctxP
        rw [selO_congr (q' := cO) (ow' := ownP sp Cs xs gs) m 0 (fun j _ _ => ⟨rfl, fun h => hown' j (by have h' : ((lAt Cs i).contains j && waitsB TO Cs m i j) = true := h; simp only [Bool.and_eq_true] at h'; simpa using h'.1)⟩)]
      have hI1 : (selI (fun k => !takenB TI m D k) 0 L).Perm (selI pI 0 L ++ (selI cI 0 L ++ selI rI 0 L)) := by
        refine (selI_split (a := pI) (b := fun k => cI k || rI k) ?_ ?_ L 0).trans ((selI_split (a := cI) (b := rI) (fun k => rfl) ?_ L 0).append_left _)
        · intro k
          show (!takenB TI m D k) = ((lAt TI i).contains k || (waitsB TI Cs m i k || (!takenB TI m D k && !(lAt TI i).contains k && !waitsB TI Cs m i k)))
          cases hp : (lAt TI i).contains k with
          | true => rw [havI k hp]; rfl
          | false =>
            cases hc : waitsB TI Cs m i k with
            | true => rw [(hwt TI k hc).1]; rfl
            | false => cases takenB TI m D k <;> rfl
        · intro k hp
          show (waitsB TI Cs m i k || (!takenB TI m D k && !(lAt TI i).contains k && !waitsB TI Cs m i k)) = false
          have hp' : (lAt TI i).contains k = true := hp
          rw [hp']
          cases hc : waitsB TI Cs m i k with
          | true => rw [(hwt TI k hc).2] at hp'; cases hp'
          | false => cases takenB TI m D k <;> rfl
        · intro k hc
          show (!takenB TI m D k && !(lAt TI i).contains k && !waitsB TI Cs m i k) = false
          rw [show waitsB TI Cs m i k = true from hc]
          simp
      have hO1 : (selO (fun j => D j && !takenB TO m D j) (ownP sp Cs xs gs) 0 m).Perm (selO pO (ownP sp Cs xs gs) 0 m ++ (selO cO (ownP sp Cs xs gs) 0 m ++ selO rO (ownP sp Cs xs gs) 0 m)) := by
        refine (selO_split (a := pO) (b := fun k => cO k || rO k) ?_ ?_ m 0).trans ((selO_split (a := cO) (b := rO) (fun k => rfl) ?_ m 0).append_left _)
        · intro k
          show (D k && !takenB TO m D k) = ((lAt TO i).contains k || (((lAt Cs i).contains k && waitsB TO Cs m i k) || (D k && !takenB TO m D k && !(lAt TO i).contains k && !((lAt Cs i).contains k && waitsB TO Cs m i k))))
          cases hp : (lAt TO i).contains k with
          | true => rw [havO k hp, hClD k (hTO k (by simpa using hp))]; rfl
          | false =>
            cases hc : ((lAt Cs i).contains k && waitsB TO Cs m i k) with
            | true =>
              simp only [Bool.and_eq_true] at hc
              rw [(hwt TO k hc.2).1, hClD k (by simpa using hc.1)]
              rfl
            | false => cases D k <;> cases takenB TO m D k <;> rfl
        · intro k hp
          show (((lAt Cs i).contains k && waitsB TO Cs m i k) || (D k && !takenB TO m D k && !(lAt TO i).contains k && !((lAt Cs i).contains k && waitsB TO Cs m i k))) = false
          have hp' : (lAt TO i).contains k = true := hp
          rw [hp']
          cases hc : waitsB TO Cs m i k with
          | true => rw [(hwt TO k hc).2] at hp'; cases hp'
          | false => simp
        · intro k hc
          show (D k && !takenB TO m D k && !(lAt TO i).contains k && !((lAt Cs i).contains k && waitsB TO Cs m i k)) = false
          rw [show ((lAt Cs i).contains k && waitsB TO Cs m i k) = true from hc]
          simp
      have Hs' : St S w0 (preP m Cs TI TO sp L i xs' gs' ++ (ctxP m Cs TI TO sp L i xs' gs' ++ RR)) w := by
        rw [hpre, hctx]
        exact Hs.perm ((hI1.append hO1).trans (perm6 _ _ _ _ _ _))
      have hnew : ∀ v g w', (psAt sp i).fact xs' gs' v g → St S w0 ((psAt sp i).own xs' gs' v g ++ (ctxP m Cs TI TO sp L i xs' gs' ++ RR)) w' → C (also D i) (came xs i v) w' := by
        intro v g w' hv Hn
        have hmk : ∀ k, (D k = true ∨ k = i) → k < m → mask (lAt Cs k) (came xs i v) = mask (lAt Cs k) xs ∧ mask (lAt Cs k) (came gs i g) = mask (lAt Cs k) gs := by
          intro k hk hkm
          have hnin : i ∉ lAt Cs k := by
            obtain ⟨ok, hok⟩ := hio' k (by omega)
            rcases hk with hk | rfl
            · exact hup k ok hok hk
            · intro h; exact absurd (hCi k h) (Nat.lt_irrefl _)
          constructor <;> refine mask_congr fun j hj => ?_ <;> (unfold came; rw [if_neg (by rintro rfl; exact hnin hj)])
        have hother : ∀ (us : Nat → Value) (u : Value) k, k ≠ i → came us i u k = us k := fun us u k hk => by unfold came; rw [if_neg hk]
        have hself : ∀ (us : Nat → Value) (u : Value), came us i u i = u := fun us u => by simp [came]
        have hal : ∀ k, also D i k = (k == i || D k) := fun _ => rfl
        refine ⟨came gs i g, ?_, .inl ⟨?_, ?_⟩⟩
        · intro k hk hDk
          by_cases hki : k = i
          · subst hki
            unfold factP
            rw [(hmk k (.inr rfl) hk).1, (hmk k (.inr rfl) hk).2, hself, hself]
            exact hv
          · have hDk' : D k = true := by rw [hal] at hDk; simpa [hki] using hDk
            unfold factP
            rw [(hmk k (.inl hDk') hk).1, (hmk k (.inl hDk') hk).2, hother _ _ k hki, hother _ _ k hki]
            exact hF k hk hDk'
        · rw [hal, hDm]; simp; omega
        · have hown1 : ∀ k, k < m → k ≠ i → D k = true → ownP sp Cs (came xs i v) (came gs i g) k = ownP sp Cs xs gs k := by
            intro k hk hki hDk
            unfold ownP
            rw [(hmk k (.inl hDk) hk).1, (hmk k (.inl hDk) hk).2, hother _ _ k hki, hother _ _ k hki]
          have hown2 : ownP sp Cs (came xs i v) (came gs i g) i = (psAt sp i).own xs' gs' v g := by
            unfold ownP
            rw [(hmk i (.inr rfl) him).1, (hmk i (.inr rfl) him).2, hself, hself]
          have htaken : ∀ (T : List (List Nat)) k, takenB T m (also D i) k = (takenB T m D k || (lAt T i).contains k) := by
            intro T k
            rw [Bool.eq_iff_iff, Bool.or_eq_true]
            unfold takenB
            rw [List.any_eq_true, List.any_eq_true]
            constructor
            · rintro ⟨i', hi', h⟩
              simp only [Bool.and_eq_true, hal, Bool.or_eq_true, beq_iff_eq] at h
              rcases h.1 with rfl | h1
              · exact .inr h.2
              · exact .inl ⟨i', hi', by simp only [Bool.and_eq_true]; exact ⟨h1, h.2⟩⟩
            · rintro (⟨i', hi', h⟩ | h)
              · simp only [Bool.and_eq_true] at h
                exact ⟨i', hi', by simp only [Bool.and_eq_true, hal, Bool.or_eq_true]; exact ⟨.inr h.1, h.2⟩⟩
              · exact ⟨i, List.mem_range.2 him, by simp only [Bool.and_eq_true, hal, Bool.or_eq_true, beq_self_eq_true]; exact ⟨.inl trivial, h⟩⟩
          have htoi : takenB TO m D i = false ∧ (lAt TO i).contains i = false := by
            constructor
            · cases h : takenB TO m D i with
              | false => rfl
              | true =>
                unfold takenB at h
                obtain ⟨i', hi', h2⟩ := List.any_eq_true.1 h
                simp only [Bool.and_eq_true] at h2
                have hi'm := List.mem_range.1 hi'
                obtain ⟨o', ho'⟩ := hio' i' (by omega)
                exact absurd ((htake i' hi'm).1 i (by simpa using h2.2)) (hup i' o' ho' h2.1)
            · cases h : (lAt TO i).contains i with
              | false => rfl
              | true => exact absurd (hCi i (hTO i (by simpa using h))) (Nat.lt_irrefl _)
          have hI2 : (selI (fun k => !takenB TI m (also D i) k) 0 L).Perm ([] ++ (selI cI 0 L ++ selI rI 0 L)) := by
            rw [List.nil_append]
            refine selI_split ?_ ?_ L 0
            · intro k
              show (!takenB TI m (also D i) k) = (waitsB TI Cs m i k || (!takenB TI m D k && !(lAt TI i).contains k && !waitsB TI Cs m i k))
              rw [htaken]
              cases hc : waitsB TI Cs m i k with
              | true => rw [(hwt TI k hc).1, (hwt TI k hc).2]; rfl
              | false => cases takenB TI m D k <;> cases (lAt TI i).contains k <;> rfl
            · intro k hc
              show (!takenB TI m D k && !(lAt TI i).contains k && !waitsB TI Cs m i k) = false
              rw [show waitsB TI Cs m i k = true from hc]
              simp
          have hO2 : (selO (fun j => also D i j && !takenB TO m (also D i) j) (ownP sp Cs (came xs i v) (came gs i g)) 0 m).Perm ((psAt sp i).own xs' gs' v g ++ (selO cO (ownP sp Cs xs gs) 0 m ++ selO rO (ownP sp Cs xs gs) 0 m)) := by
            have hsp1 := selO_split (q := fun j => also D i j && !takenB TO m (also D i) j) (a := fun j => j == i) (b := fun k => cO k || rO k) (ow := ownP sp Cs (came xs i v) (came gs i g)) (by
              intro k
              show (also D i k && !takenB TO m (also D i) k) = ((k == i) || (((lAt Cs i).contains k && waitsB TO Cs m i k) || (D k && !takenB TO m D k && !(lAt TO i).contains k && !((lAt Cs i).contains k && waitsB TO Cs m i k))))
              rw [htaken, hal]
              by_cases hki : k = i
              · subst hki
                rw [htoi.1, htoi.2]
                simp
              · rw [show (k == i) = false by simp; exact hki]
                cases hc : ((lAt Cs i).contains k && waitsB TO Cs m i k) with
                | true =>
                  simp only [Bool.and_eq_true] at hc
                  rw [(hwt TO k hc.2).1, (hwt TO k hc.2).2, hClD k (by simpa using hc.1)]
                  rfl
                | false => cases D k <;> cases takenB TO m D k <;> cases (lAt TO i).contains k <;> rfl) (by
              intro k hk
              have hki : k = i := by simpa using hk
              subst hki
              show (((lAt Cs k).contains k && waitsB TO Cs m k k) || (D k && !takenB TO m D k && !(lAt TO k).contains k && !((lAt Cs k).contains k && waitsB TO Cs m k k))) = false
              rw [hDi, show (lAt Cs k).contains k = false by
                cases h : (lAt Cs k).contains k with
                | false => rfl
                | true => exact absurd (hCi k (by simpa using h)) (Nat.lt_irrefl _)]
              rfl) m 0
            rw [selO_one m 0 (Nat.zero_le _) (by omega), hown2] at hsp1
            refine hsp1.trans (List.Perm.append_left _ ?_)
            have hb : selO (fun k => cO k || rO k) (ownP sp Cs (came xs i v) (came gs i g)) 0 m = selO (fun k => cO k || rO k) (ownP sp Cs xs gs) 0 m := by
              refine selO_congr m 0 (fun j _ hj => ⟨rfl, fun h => ?_⟩)
              have hDj : D j = true ∧ j ≠ i := by
                have h' : (((lAt Cs i).contains j && waitsB TO Cs m i j) || (D j && !takenB TO m D j && !(lAt TO i).contains j && !((lAt Cs i).contains j && waitsB TO Cs m i j))) = true := h
                simp only [Bool.or_eq_true, Bool.and_eq_true] at h'
                rcases h' with h' | h'
                · have : j ∈ lAt Cs i := by simpa using h'.1
                  exact ⟨hClD j this, by have := hCi j this; omega⟩
                · refine ⟨h'.1.1.1, ?_⟩
                  rintro rfl
                  rw [hDi] at h'
                  cases h'.1.1.1
              exact hown1 j (by omega) hDj.2 hDj.1
            rw [hb]
            refine selO_split (fun k => rfl) ?_ m 0
            intro k hc
            show (D k && !takenB TO m D k && !(lAt TO i).contains k && !((lAt Cs i).contains k && waitsB TO Cs m i k)) = false
            rw [show ((lAt Cs i).contains k && waitsB TO Cs m i k) = true from hc]
            simp
          refine Hn.perm ?_
          rw [hctx]
          unfold stP
          exact (((hI2.append hO2).trans (perm6 _ _ _ _ _ _)).symm)
      -- what the operation does
      rw [hfw, ← hwa]
      rcases hobl with ⟨hmet, hqt⟩ | ⟨hun, g, hg1, hg2⟩ | ⟨hmet, hqx⟩
      · rw [if_pos (hmet.wanted hmw)]
        have hwp := hqt.run _ w RR hmw Hs'
        unfold Oper.wp at hwp ⊢
        rw [hex] at hwp
        refine upon_imp hwp ?_ ?_
        · rintro v w' ⟨u, g, h1, h2, h3, h4⟩
          have hsz : ∀ d, o.dst = some d → d < n := fun d hd => ((orderly_spec ho hio).2.1 d hd).1
          have hu := put_value (o := o) (n := n) (a := frameOf l.toArray vs (List.range i) a0) hsz (by rw [frameOf_size]; exact hn) h1 h2
          have hu2 : valOf o ((frameOf l.toArray vs (waits o) a0).put o.dst v) = u := by
            rw [← hu]
            unfold valOf
            cases hd : o.dst with
            | none => rfl
            | some d => exact (put_getD_same (by rw [frameOf_size, hn]; exact hsz d hd)).trans (put_getD_same (by rw [frameOf_size, hn]; exact hsz d hd)).symm
          rw [hu2]
          exact ⟨by rw [put_defs, frameOf_defers], hnew u g w' h3 h4, fun _ _ _ => trivial, trivial⟩
        · rintro d w' ⟨u, g, h1, _⟩
          have h5 := congrArg Act.defers h1
          rw [put_defs, put_defs] at h5
          have h6 := congrArg List.length h5
          simp at h6
      · rw [hun.wanted hmw]
        simp only [Bool.false_eq_true, if_false]
        exact ⟨hnew undef g w hg1 (by rw [hg2]; exact Hs'), trivial⟩
      · rw [if_pos (hmet.wanted hmw)]
        have hwp := hqx.run _ w RR hmw Hs'
        unfold Oper.wp at hwp ⊢
        rw [hex] at hwp
        exact upon_impZ hwp (fun _ _ h => h.elim) (fun _ _ h => h) (fun _ _ h => h.elim)
    · -- one of the tail
      have hall : ∀ j, j < i → D j = true := fun j hj => hClD j (htl (by omega) j hj)
      have hw := htail D xs w i (by omega) (by omega) hall (fun _ => hDi) hC
      obtain ⟨gs, hF, _⟩ := hC
      have hdrop : l.drop i = o :: l.drop (i + 1) := by
        rw [List.drop_eq_getElem_cons hil]
        congr 1
        have h1 : l[i]? = some o := by simpa using hio
        exact (List.getElem?_eq_some_iff.1 h1).2
      rw [hdrop] at hw
      obtain ⟨hex, hwa⟩ := wp_alike ho hn xs hio
      have hnew : ∀ v w', (o.dst = none → v = undef) → wpList P l.toArray Qf (l.drop (i + 1)) ((frameOf l.toArray xs (List.range i) a0).put o.dst v) w' → C (also D i) (came xs i v) w' := by
        intro v w' hv hk
        have hne : ∀ k, k ≠ i → also D i k = D k := by
          intro k hk
          unfold also
          have hb : (k == i) = false := by simp [hk]
          rw [hb]; rfl
        refine ⟨gs, ?_, .inr ⟨i - m + 1, by omega, by omega, ?_, ?_⟩⟩
        · intro k hk hDk
          have hki : k ≠ i := by omega
          rw [hne k hki] at hDk
          have hnin : i ∉ lAt Cs k := by
            obtain ⟨ok, hok⟩ := hio' k (by omega)
            exact hup k ok hok hDk
          unfold factP
          rw [show mask (lAt Cs k) (came xs i v) = mask (lAt Cs k) xs from mask_congr fun j hj => by unfold came; rw [if_neg (by rintro rfl; exact hnin hj)], show came xs i v k = xs k by unfold came; rw [if_neg hki]]
          exact hF k hk hDk
        · intro k hmk hkl
          by_cases hki : k = i
          · subst hki
            have : also D k k = true := by simp [also]
            rw [this]; symm; simp; omega
          · rw [hne k hki]
            by_cases hlt' : k < i
            · rw [hall k hlt']; symm; simp; omega
            · have hDk : D k = false := by
                cases hd : D k with
                | false => rfl
                | true =>
                  have hko : l.toArray[k]? = some (l[k]'hkl) := by simp [hkl]
                  exact absurd ((htab k _ hko).2.2.2 hmk i (by omega)) (hup k _ hko hd)
              rw [hDk]; symm; simp; omega
        · rw [show m + (i - m + 1) = i + 1 by omega, List.range_succ, frameOf_append]
          have e1 : frameOf l.toArray (came xs i v) (List.range i) a0 = frameOf l.toArray xs (List.range i) a0 :=
            frameOf_congr _ _ (fun j hj => by unfold came; rw [if_neg (by have := List.mem_range.1 hj; omega)])
          rw [e1]
          have e2 : (l.toArray[i]?).bind (·.dst) = o.dst := by rw [hio]; rfl
          have e3 : came xs i v i = v := by simp [came]
          show wpList P l.toArray Qf _ ((frameOf l.toArray xs (List.range i) a0).put ((l.toArray[i]?).bind (·.dst)) (came xs i v i)) w'
          rw [e2, e3]
          exact hk
      unfold wpList at hw
      rw [hwa] at hw
      split
      · rename_i hwt
        rw [if_pos hwt] at hw
        rcases hw with hw | ⟨_, hw⟩
        · unfold Oper.wp at hw ⊢
          rw [hex] at hw
          refine upon_impZ (upon_zQ hw) ?_ (fun _ _ h => h) ?_
          · intro v w' hk
            have hsz : ∀ d, o.dst = some d → d < n := fun d hd => ((orderly_spec ho hio).2.1 d hd).1
            cases hd : o.dst with
            | none =>
              rw [hd] at hk
              have hv : valOf o ((frameOf l.toArray xs (waits o) a0).put none v) = undef := by unfold valOf; rw [hd]
              rw [hv]
              exact ⟨by rw [put_defs, frameOf_defers], hnew undef w' (fun _ => rfl) (by rw [hd]; exact hk), fun _ _ _ => trivial, trivial⟩
            | some d =>
              have hv : valOf o ((frameOf l.toArray xs (waits o) a0).put (some d) v) = v := by
                unfold valOf
                rw [hd]
                exact put_getD_same (by rw [frameOf_size, hn]; exact hsz d hd)
              rw [hv]
              exact ⟨by rw [put_defs, frameOf_defers], hnew v w' (fun h => by rw [hd] at h; cases h) hk, fun _ _ _ => trivial, trivial⟩
          · intro d w' hk
            exact no_defers _ _ _ (by rw [put_defs]; simp) hk
        · exact (no_out hw).elim
      · rename_i hwt
        rw [if_neg hwt] at hw
        exact ⟨hnew undef w (fun _ => rfl) hw, trivial⟩
  · intro D xs w hD hC _
    have hw := htail D xs w l.length hml (Nat.le_refl _) (fun j hj => hD j (by simpa using hj)) (fun h => absurd h (Nat.lt_irrefl _)) hC
    rw [List.drop_length] at hw
    obtain ⟨env', L', h1, h2, h3⟩ := hw
    refine ⟨env', L', ?_, h2, h3⟩
    simpa using h1
/-! ### in the order of the text -/
abbrev AkP := List (Nat × List Nat × (Xs → Xs → Value → Value → Prop) × (Xs → Xs → Value → Value → List Res))
def factsAP (C : List Nat) (xs gs : Xs) : AkP → Prop
  | [] => True
  | (j, Cj, F, _) :: r => (C.contains j = true → F (mask Cj xs) (mask Cj gs) (xs j) (gs j)) ∧ factsAP C xs gs r
def ownsA (q : Nat → Bool) (xs gs : Xs) : AkP → List Res
  | [] => []
  | (j, Cj, _, N) :: r => match q j with
    | true => N (mask Cj xs) (mask Cj gs) (xs j) (gs j) ++ ownsA q xs gs r
    | false => ownsA q xs gs r
def factsTP (xs gs : Xs) : AkP → Prop
  | [] => True
  | (j, Cj, F, _) :: r => F (mask Cj xs) (mask Cj gs) (xs j) (gs j) ∧ factsTP xs gs r
def PS.ak (k : Nat) (C : List Nat) : PS → AkP
  | .val _ => []
  | .any F N => [(k, C, F, N)]
def akP (Cs : List (List Nat)) : Nat → List PS → AkP
  | _, [] => []
  | k, s :: r => s.ak k (lAt Cs k) ++ akP Cs (k + 1) r
/-- an operation's table: what it waits for with all that these wait for; what it takes of the first, of the operations; what it looks on at of the first, of the operations -/
abbrev T5 := List Nat × List Nat × List Nat × List Nat × List Nat
def quietsP (P : Program) (n : Nat) (S : List Nat) (w0 : World) (Z : List PanicEntry → World → Prop) (ops : Array Oper) (L : List Res) (F : (Xs → Xs → Env) → AkP → Prop) : Nat → List Oper → List T5 → (Xs → Xs → Env) → AkP → Prop
  | k, o :: r, (C, ti, to, xi, xo) :: Ts, E, A => ∃ s : PS, (∀ xs gs : Xs, factsAP C xs gs A →
      QPG P n S w0 Z ops o (E xs gs) (selI (fun j => ti.contains j) 0 L ++ ownsA (fun j => to.contains j) xs gs A) (selI (fun j => xi.contains j) 0 L ++ ownsA (fun j => xo.contains j) xs gs A) (s.fact xs gs) (s.own xs gs)) ∧
      quietsP P n S w0 Z ops L F (k + 1) r Ts (fun xs gs => ext o.dst (s.cur (mask C xs) (mask C gs) (xs k)) (E xs gs)) (A ++ s.ak k C)
  | _, [], _, E, A => F E A
  | _, _, _, _, _ => False
def tAt : List T5 → Nat → T5
  | [], _ => ([], [], [], [], [])
  | c :: r, k => match k with | 0 => c | k + 1 => tAt r k
def fivesOk (m nL : Nat) (Cs : List (List Nat)) (Ts : List T5) : Bool :=
  (Ts.length == m) && takesOk m Cs (Ts.map (·.2.1)) (Ts.map (·.2.2.1)) &&
  (List.range m).all fun i => ((tAt Ts i).1 == lAt Cs i) && ((tAt Ts i).2.1 == lAt (Ts.map (·.2.1)) i) && ((tAt Ts i).2.2.1 == lAt (Ts.map (·.2.2.1)) i) &&
    ((List.range nL).all fun k => (tAt Ts i).2.2.2.1.contains k == waitsB (Ts.map (·.2.1)) Cs m i k) &&
    ((List.range m).all fun j => (tAt Ts i).2.2.2.2.contains j == ((lAt Cs i).contains j && waitsB (Ts.map (·.2.2.1)) Cs m i j)) && ((tAt Ts i).2.2.2.2.all fun j => Nat.ble (j + 1) m)
theorem psAt_left : ∀ (a b : List PS) (j : Nat), j < a.length → psAt (a ++ b) j = psAt a j
  | [], b, j, h => by simp at h
  | s :: a, b, 0, h => rfl
  | s :: a, b, j + 1, h => psAt_left a b j (by simpa using h)
theorem psAt_last : ∀ (a : List PS) (s : PS) (b : List PS), psAt (a ++ s :: b) a.length = s
  | [], s, b => rfl
  | x :: a, s, b => psAt_last a s b
theorem psAt_of_le : ∀ (sp : List PS) (k : Nat), sp.length ≤ k → psAt sp k = .val fun _ _ => undef
  | [], _, _ => rfl
  | s :: r, 0, h => by simp at h
  | s :: r, k + 1, h => psAt_of_le r k (by simpa using h)
theorem akP_append (Cs : List (List Nat)) : ∀ (a b : List PS) (k : Nat), akP Cs k (a ++ b) = akP Cs k a ++ akP Cs (k + a.length) b
  | [], b, k => by simp [akP]
  | s :: a, b, k => by
    show s.ak k (lAt Cs k) ++ akP Cs (k + 1) (a ++ b) = s.ak k (lAt Cs k) ++ akP Cs (k + 1) a ++ akP Cs _ b
    rw [akP_append Cs a b (k + 1), List.append_assoc, show k + 1 + a.length = k + (s :: a).length by simp; omega]
theorem ownsA_of {q : Nat → Bool} {Cs : List (List Nat)} {xs gs : Xs} : ∀ (sp pre : List PS) (m : Nat), sp.length ≤ m → selO q (ownP (pre ++ sp) Cs xs gs) pre.length m = ownsA q xs gs (akP Cs pre.length sp)
  | [], pre, m, h => by
    have key : ∀ (m k : Nat), pre.length ≤ k → selO q (ownP (pre ++ []) Cs xs gs) k m = [] := by
      intro m
      induction m with
      | zero => intro k _; rfl
      | succ m ih =>
        intro k hk
        unfold selO
        rw [ih (k + 1) (by omega)]
        have : ownP (pre ++ []) Cs xs gs k = [] := by unfold ownP; rw [List.append_nil, psAt_of_le pre k hk]; rfl
        rw [this]
        cases q k <;> rfl
    exact key m _ (Nat.le_refl _)
  | s :: r, pre, 0, h => by simp at h
  | s :: r, pre, m + 1, h => by
    have ih := ownsA_of (q := q) (Cs := Cs) (xs := xs) (gs := gs) r (pre ++ [s]) m (by simpa using h)
    rw [show pre ++ [s] ++ r = pre ++ s :: r by simp, show (pre ++ [s]).length = pre.length + 1 by simp] at ih
    unfold selO
    rw [ih]
    have h0 : ownP (pre ++ s :: r) Cs xs gs pre.length = s.own (mask (lAt Cs pre.length) xs) (mask (lAt Cs pre.length) gs) (xs pre.length) (gs pre.length) := by unfold ownP; rw [psAt_last]
    rw [h0]
    cases s with
    | val f =>
      show (match q pre.length with | true => [] ++ ownsA q xs gs (akP Cs (pre.length + 1) r) | false => ownsA q xs gs (akP Cs (pre.length + 1) r)) = ownsA q xs gs (akP Cs (pre.length + 1) r)
      cases q pre.length <;> rfl
    | any F N => rfl
theorem factsAP_of {C : List Nat} {Cs : List (List Nat)} {xs gs : Xs} : ∀ (sp pre : List PS), (∀ j, pre.length ≤ j → j < pre.length + sp.length → C.contains j = true → factP (pre ++ sp) Cs xs gs j) → factsAP C xs gs (akP Cs pre.length sp)
  | [], pre, _ => trivial
  | s :: r, pre, h => by
    have ih := factsAP_of (C := C) (Cs := Cs) (xs := xs) (gs := gs) r (pre ++ [s]) (fun j h1 h2 hc => by
      rw [show pre ++ [s] ++ r = pre ++ s :: r by simp]
      simp only [List.length_append, List.length_singleton] at h1 h2
      exact h j (by omega) (by simp; omega) hc)
    rw [show (pre ++ [s]).length = pre.length + 1 by simp] at ih
    cases s with
    | val f => exact ih
    | any F N =>
      refine ⟨fun hc => ?_, ih⟩
      have := h pre.length (Nat.le_refl _) (by simp) hc
      unfold factP at this
      rw [psAt_last] at this
      exact this
theorem factsTP_of {Cs : List (List Nat)} {xs gs : Xs} : ∀ (sp pre : List PS), (∀ j, pre.length ≤ j → j < pre.length + sp.length → factP (pre ++ sp) Cs xs gs j) → factsTP xs gs (akP Cs pre.length sp)
  | [], pre, _ => trivial
  | s :: r, pre, h => by
    have ih := factsTP_of (Cs := Cs) (xs := xs) (gs := gs) r (pre ++ [s]) (fun j h1 h2 => by
      rw [show pre ++ [s] ++ r = pre ++ s :: r by simp]
      simp only [List.length_append, List.length_singleton] at h1 h2
      exact h j (by omega) (by simp; omega))
    rw [show (pre ++ [s]).length = pre.length + 1 by simp] at ih
    cases s with
    | val f => exact ih
    | any F N =>
      refine ⟨?_, ih⟩
      have := h pre.length (Nat.le_refl _) (by simp)
      unfold factP at this
      rw [psAt_last] at this
      exact this
theorem envP_congr {ops : Array Oper} {cv cv' : Nat → Value} : ∀ (W : List Nat) (env : Env), (∀ j ∈ W, cv j = cv' j) → envP ops cv W env = envP ops cv' W env
  | [], env, _ => rfl
  | j :: W, env, h => by
    unfold envP
    rw [h j (by simp)]
    exact envP_congr W _ (fun k hk => h k (by simp [hk]))
theorem envP_append {ops : Array Oper} {cv : Nat → Value} : ∀ (l m : List Nat) (e : Env), envP ops cv (l ++ m) e = envP ops cv m (envP ops cv l e)
  | [], _, _ => rfl
  | j :: l, m, e => envP_append l m _
theorem curP_left {Cs : List (List Nat)} {xs gs : Xs} (a b : List PS) {j : Nat} (h : j < a.length) : curP (a ++ b) Cs xs gs j = curP a Cs xs gs j := by unfold curP; rw [psAt_left a b j h]
theorem quietsP_spec {Z : List PanicEntry → World → Prop} {ops : Array Oper} {Cs : List (List Nat)} {F : (Xs → Xs → Env) → AkP → Prop} {env0 : Env} : ∀ (r : List Oper) (Ts : List T5) (acc : List PS), (∀ i o, r[i]? = some o → ops[acc.length + i]? = some o) → (∀ i, i < r.length → (tAt Ts i).1 = lAt Cs (acc.length + i)) → Ts.length ≤ r.length →
    quietsP P n S w0 Z ops L F acc.length r Ts (fun xs gs => envP ops (curP acc Cs xs gs) (List.range acc.length) env0) (akP Cs 0 acc) →
    ∃ t : List PS, t.length = r.length ∧ F (fun xs gs => envP ops (curP (acc ++ t) Cs xs gs) (List.range (acc ++ t).length) env0) (akP Cs 0 (acc ++ t)) ∧
      ∀ i o, r[i]? = some o → ∀ xs gs : Xs, factsAP (lAt Cs (acc.length + i)) xs gs (akP Cs 0 ((acc ++ t).take (acc.length + i))) → QPG P n S w0 Z ops o (envP ops (curP (acc ++ t) Cs xs gs) (List.range (acc.length + i)) env0)
        (selI (fun j => (tAt Ts i).2.1.contains j) 0 L ++ ownsA (fun j => (tAt Ts i).2.2.1.contains j) xs gs (akP Cs 0 ((acc ++ t).take (acc.length + i)))) (selI (fun j => (tAt Ts i).2.2.2.1.contains j) 0 L ++ ownsA (fun j => (tAt Ts i).2.2.2.2.contains j) xs gs (akP Cs 0 ((acc ++ t).take (acc.length + i)))) ((psAt (acc ++ t) (acc.length + i)).fact xs gs) ((psAt (acc ++ t) (acc.length + i)).own xs gs)
  | [], Ts, acc, _, _, hlen, h => ⟨[], rfl, by unfold quietsP at h; simpa using h, fun i o hi => by simp at hi⟩
  | o :: r, [], acc, hat, hcs, _, h => by unfold quietsP at h; exact h.elim
  | o :: r, (C, ti, to, xi, xo) :: Ts, acc, hat, hcs, hlen, h => by
    obtain ⟨s, h1, h2⟩ := h
    have hC : C = lAt Cs acc.length := by have := hcs 0 (by simp); simpa [tAt] using this
    have hE : (fun xs gs => ext o.dst (s.cur (mask C xs) (mask C gs) (xs acc.length)) (envP ops (curP acc Cs xs gs) (List.range acc.length) env0)) = fun xs gs => envP ops (curP (acc ++ [s]) Cs xs gs) (List.range (acc ++ [s]).length) env0 := by
      funext xs gs
      rw [show (acc ++ [s]).length = acc.length + 1 by simp, List.range_succ, envP_append, envP_congr (cv := curP (acc ++ [s]) Cs xs gs) (cv' := curP acc Cs xs gs) (List.range acc.length) env0 (fun j hj => curP_left acc [s] (List.mem_range.1 hj))]
      show _ = ext ((ops[acc.length]?).bind (·.dst)) (curP (acc ++ [s]) Cs xs gs acc.length) _
      have h0 := hat 0 o rfl
      rw [Nat.add_zero] at h0
      rw [h0]
      unfold curP
      rw [psAt_last, hC]
      rfl
    have hA : akP Cs 0 acc ++ s.ak acc.length C = akP Cs 0 (acc ++ [s]) := by
      rw [akP_append, Nat.zero_add, hC]
      simp [akP]
    rw [hE, hA, show acc.length + 1 = (acc ++ [s]).length by simp] at h2
    obtain ⟨t, ht1, ht2, ht3⟩ := quietsP_spec r Ts (acc ++ [s]) (fun i o' hi => by
      have := hat (i + 1) o' (by simpa using hi)
      rwa [show (acc ++ [s]).length + i = acc.length + (i + 1) by simp; omega]) (fun i hi => by
      have := hcs (i + 1) (by simpa using hi)
      rw [show (acc ++ [s]).length + i = acc.length + (i + 1) by simp; omega]
      exact this) (by simpa using hlen) h2
    have e : acc ++ [s] ++ t = acc ++ s :: t := by simp
    rw [e] at ht2 ht3
    refine ⟨s :: t, by simp [ht1], ht2, ?_⟩
    intro i o' hi xs gs hx
    cases i with
    | zero =>
      simp only [List.getElem?_cons_zero, Option.some.injEq] at hi
      subst hi
      rw [Nat.add_zero] at hx ⊢
      rw [show (acc ++ s :: t).take acc.length = acc by simp] at hx ⊢
      rw [psAt_last, envP_congr (cv := curP (acc ++ s :: t) Cs xs gs) (cv' := curP acc Cs xs gs) (List.range acc.length) env0 (fun j hj => curP_left acc (s :: t) (List.mem_range.1 hj))]
      exact h1 xs gs (by rw [hC]; exact hx)
    | succ i =>
      have := ht3 i o' (by simpa using hi) xs gs (by rwa [show (acc ++ [s]).length + i = acc.length + (i + 1) by simp; omega])
      rwa [show (acc ++ [s]).length + i = acc.length + (i + 1) by simp; omega] at this
theorem selI_congrL {q q' : Nat → Bool} : ∀ (L : List Res) (k : Nat), (∀ j, k ≤ j → j < k + L.length → q j = q' j) → selI q k L = selI q' k L
  | [], k, _ => rfl
  | r :: L, k, h => by
    unfold selI
    rw [h k (Nat.le_refl _) (by simp), selI_congrL L (k + 1) (fun j h1 h2 => h j (by omega) (by simp; omega))]
set_option maxHeartbeats 1000000 in
theorem VC_drawQ {id : Nat} {l : List Oper} (m nL : Nat) (Ws Cs : List (List Nat)) (Ts : List T5) (fi fo : List Nat) (hmix : P.follows .mixedOrders = true) (hL : L.length = nL)
    (hok : (orderly l.toArray n && tablesOk l.toArray m Ws Cs && fivesOk m nL Cs Ts && Nat.ble m l.length && ((List.range nL).all fun k => fi.contains k == !takenB (Ts.map (·.2.1)) m (fun _ => true) k) && ((List.range m).all fun k => fo.contains k == !takenB (Ts.map (·.2.2.1)) m (fun _ => true) k)) = true)
    (hq : quietsP P n S w0 (zQ S w0 Q) l.toArray L (fun E A => ∀ xs gs : Xs, factsTP xs gs A → VL P n S w0 l.toArray (QN Q) (l.drop m) (E xs gs) (selI (fun k => fi.contains k) 0 L ++ ownsA (fun k => fo.contains k) xs gs A)) 0 (l.take m) Ts (fun _ _ => env) []) :
    VC P n S w0 (.region id l.toArray true) Q env L := by
  simp only [Bool.and_eq_true, List.all_eq_true, List.mem_range, beq_iff_eq] at hok
  obtain ⟨⟨⟨⟨⟨ho, ht⟩, h5⟩, hml⟩, hfi⟩, hfo⟩ := hok
  have hml' := Nat.le_of_ble_eq_true hml
  simp only [fivesOk, Bool.and_eq_true, List.all_eq_true, List.mem_range, beq_iff_eq] at h5
  obtain ⟨⟨hTl, htk⟩, h5⟩ := h5
  have hlm : (l.take m).length = m := by rw [List.length_take]; omega
  obtain ⟨sp, hs1, hs2, hs3⟩ := quietsP_spec (Cs := Cs) (env0 := env) (l.take m) Ts [] (fun i o hi => by
    rw [List.getElem?_take] at hi
    split at hi
    · simpa using hi
    · cases hi) (fun i hi => by
      have := (h5 i (by omega)).1.1.1.1.1
      rw [List.length_nil, Nat.zero_add]
      exact this) (by omega) hq
  simp only [List.nil_append, List.length_nil, Nat.zero_add] at hs2 hs3
  have hl : sp.length = m := by rw [hs1, hlm]
  have hak : ∀ (i : Nat) (q : Nat → Bool) (xs gs : Xs), i ≤ m → (∀ j, q j = true → j < i) → selO q (ownP sp Cs xs gs) 0 m = ownsA q xs gs (akP Cs 0 (sp.take i)) := by
    intro i q xs gs him hqi
    have h1 := ownsA_of (q := q) (Cs := Cs) (xs := xs) (gs := gs) (sp.take i) [] m (by rw [List.length_take]; omega)
    simp only [List.nil_append, List.length_nil] at h1
    rw [← h1]
    refine selO_congr m 0 (fun j _ _ => ⟨rfl, fun hj => ?_⟩)
    have hji := hqi j hj
    unfold ownP
    have : psAt sp j = psAt (sp.take i) j := by
      conv => lhs; rw [← List.take_append_drop i sp]
      exact psAt_left _ _ j (by rw [List.length_take]; omega)
    rw [this]
  refine VC_drawP m sp Ws Cs (Ts.map (·.2.1)) (Ts.map (·.2.2.1)) hmix (by simp only [Bool.and_eq_true]; exact ⟨⟨⟨ho, ht⟩, htk⟩, hml⟩) ?_ ?_
  · intro i o him hio xs gs hx
    have hti : lAt Cs i = (tAt Ts i).1 := (h5 i him).1.1.1.1.1.symm
    have hCi : ∀ j ∈ lAt Cs i, j < i := by
      intro j hj
      have ht' := ht
      simp only [tablesOk, Bool.and_eq_true, List.all_eq_true, List.mem_range, beq_iff_eq] at ht'
      have hil : i < l.length := by omega
      have hh := ht'.2 i (by simpa using hil)
      have hlen := ht'.1.1
      have hlen2 := ht'.1.2
      have hio2 : l.toArray[i]? = some o := by simpa using hio
      have hWi : Ws[i]? = some (Ws[i]'(by simp at hlen; omega)) := List.getElem?_eq_getElem _
      have hCi' : Cs[i]? = some (Cs[i]'(by simp at hlen2; omega)) := List.getElem?_eq_getElem _
      rw [hio2, hWi, hCi'] at hh
      simp only [Bool.and_eq_true, List.all_eq_true, beq_iff_eq] at hh
      rw [lAt_of hCi'] at hj
      exact Nat.le_of_ble_eq_true (hh.1.1.1.1 j hj)
    have hob := hs3 i o (by rw [List.getElem?_take, if_pos him]; exact hio) xs gs (factsAP_of (Cs := Cs) (sp.take i) [] (fun j _ hj hc => by
      have hji : j < i := by simp at hj; omega
      have := hx j (by simpa using hc)
      unfold factP at this ⊢
      rw [List.nil_append]
      have e : psAt sp j = psAt (sp.take i) j := by
        conv => lhs; rw [← List.take_append_drop i sp]
        exact psAt_left _ _ j (by rw [List.length_take]; omega)
      rwa [e] at this))
    obtain ⟨⟨⟨⟨⟨h51, h52⟩, h53⟩, h54⟩, h55⟩, h56⟩ := h5 i him
    have hTxo : ∀ j, (tAt Ts i).2.2.2.2.contains j = true → j < m := fun j hj => Nat.le_of_ble_eq_true (h56 j (by simpa using hj))
    have htO : ∀ j, (tAt Ts i).2.2.1.contains j = true → j < i := by
      intro j hj
      rw [h53] at hj
      simp only [takesOk, List.all_eq_true, List.mem_range, Bool.and_eq_true] at htk
      exact hCi j (by simpa using (htk i him).1.1 j (by simpa using hj))
    have htX : ∀ j, ((lAt Cs i).contains j && waitsB (Ts.map (·.2.2.1)) Cs m i j) = true → j < i := by
      intro j hj
      simp only [Bool.and_eq_true] at hj
      exact hCi j (by simpa using hj.1)
    have hpre : preP m Cs (Ts.map (·.2.1)) (Ts.map (·.2.2.1)) sp L i xs gs = selI (fun j => (tAt Ts i).2.1.contains j) 0 L ++ ownsA (fun j => (tAt Ts i).2.2.1.contains j) xs gs (akP Cs 0 (sp.take i)) := by
      unfold preP
      rw [← h52, ← h53, hak i _ xs gs (by omega) htO]
    have hctx : ctxP m Cs (Ts.map (·.2.1)) (Ts.map (·.2.2.1)) sp L i xs gs = selI (fun j => (tAt Ts i).2.2.2.1.contains j) 0 L ++ ownsA (fun j => (tAt Ts i).2.2.2.2.contains j) xs gs (akP Cs 0 (sp.take i)) := by
      unfold ctxP
      rw [← hak i (fun j => (tAt Ts i).2.2.2.2.contains j) xs gs (by omega) (fun j hj => by
        by_cases hjm : j < m
        · rw [h55 j hjm] at hj; exact htX j hj
        · exfalso
          exact hjm (hTxo j hj)), selI_congrL L 0 (fun k _ hk => h54 k (by omega))]
      congr 1
      exact (selO_congr m 0 (fun j _ hj => ⟨h55 j (by omega), fun _ => rfl⟩)).symm
    rw [hpre, hctx]
    exact hob
  · intro xs gs hx
    have h := hs2 xs gs (factsTP_of (Cs := Cs) sp [] (fun j _ hj => hx j (by simp at hj; omega)))
    rw [hl] at h
    have e : stP m Cs (Ts.map (·.2.1)) (Ts.map (·.2.2.1)) sp L (fun _ => true) xs gs = selI (fun k => fi.contains k) 0 L ++ ownsA (fun k => fo.contains k) xs gs (akP Cs 0 sp) := by
      unfold stP
      have h1 := ownsA_of (q := fun k => fo.contains k) (Cs := Cs) (xs := xs) (gs := gs) sp [] m (by omega)
      simp only [List.nil_append, List.length_nil] at h1
      rw [← h1, selI_congrL L 0 (fun k _ hk => hfi k (by omega))]
      congr 1
      refine (selO_congr m 0 (fun j _ hj => ⟨?_, fun _ => rfl⟩)).symm
      rw [hfo j (by omega)]
      rfl
    rw [e]
    exact h
end
end Go.PBYtadaihpeionniaa
end
section
namespace Go.PBYtadaihpeionniaa
open Go Go.RowKit
set_option linter.unusedSimpArgs false
set_option linter.unusedVariables false
section
variable {P : Program} {n : Nat} {S : List Nat} {w0 : World} {Z : List PanicEntry → World → Prop} {ops : Array Oper} {L : List Res} {d : Tmp} {ty : TypeId} {pos : String} {af : Array Edge} {g : Option (Nat × Bool)} {o : Oper} {F : (Xs → Xs → Env) → AkP → Prop} {k : Nat} {C ti to xi xo : List Nat} {Ts : List T5} {E : Xs → Xs → Env} {A : AkP} {rest : List Oper} {op : Op} {env : Env} {B : List Res}
theorem QT.of_val {f : Value} (h : QT P n S w0 o env B (.val f)) : QPT P n S w0 o env [] B (fun v _ => v = f) (fun _ _ => []) := by
  refine ⟨fun a w R hm H => ?_⟩
  have hw := h.run a w hm (H.sub (List.sublist_append_left B R))
  unfold Oper.wp at hw ⊢
  refine upon_imp hw ?_ ?_
  · rintro v w' ⟨u, h1, h2, h3, h4⟩
    exact ⟨u, undef, h1, h2, h3, (H.join h4).perm (by simp [Sp.res])⟩
  · rintro e w' ⟨u, h1, _⟩
    have h5 := congrArg Act.defers h1
    rw [put_defs, put_defs] at h5
    have h6 := congrArg List.length h5
    simp at h6
theorem QT.of_any {Fv : Value → Prop} {N : Value → List Res} (h : QT P n S w0 o env B (.any Fv N)) : QPT P n S w0 o env [] B (fun v _ => Fv v) (fun v _ => N v) := by
  refine ⟨fun a w R hm H => ?_⟩
  have hw := h.run a w hm (H.sub (List.sublist_append_left B R))
  unfold Oper.wp at hw ⊢
  refine upon_imp hw ?_ ?_
  · rintro v w' ⟨u, h1, h2, h3, h4⟩
    exact ⟨u, undef, h1, h2, h3, (H.join h4).perm List.perm_append_comm⟩
  · rintro e w' ⟨u, h1, _⟩
    have h5 := congrArg Act.defers h1
    rw [put_defs, put_defs] at h5
    have h6 := congrArg List.length h5
    simp at h6
theorem selI_none : ∀ (L : List Res) (k : Nat), selI (fun j => ([] : List Nat).contains j) k L = []
  | [], k => rfl
  | r :: L, k => selI_none L (k + 1)
theorem ownsA_none (xs gs : Xs) : ∀ (A : AkP), ownsA (fun j => ([] : List Nat).contains j) xs gs A = []
  | [] => rfl
  | (j, Cj, F, N) :: r => ownsA_none xs gs r
theorem qp_of {s : PS} (h : ∀ xs gs : Xs, factsAP C xs gs A → QPG P n S w0 Z ops o (E xs gs) (selI (fun j => ti.contains j) 0 L ++ ownsA (fun j => to.contains j) xs gs A) (selI (fun j => xi.contains j) 0 L ++ ownsA (fun j => xo.contains j) xs gs A) (s.fact xs gs) (s.own xs gs))
    (hn : quietsP P n S w0 Z ops L F (k + 1) rest Ts (fun xs gs => ext o.dst (s.cur (mask C xs) (mask C gs) (xs k)) (E xs gs)) (A ++ s.ak k C)) : quietsP P n S w0 Z ops L F k (o :: rest) ((C, ti, to, xi, xo) :: Ts) E A := ⟨s, h, hn⟩
theorem qp_v {f : Xs → Xs → Value} (hq : ∀ xs gs : Xs, factsAP C xs gs A → QT P n S w0 { dst := some d, op, type := ty, pos, after := af, guard := none } (E xs gs) (selI (fun j => xi.contains j) 0 L ++ ownsA (fun j => xo.contains j) xs gs A) (.val (f xs gs)))
    (h : quietsP P n S w0 Z ops L F (k + 1) rest Ts (fun xs gs => (d, f (mask C xs) (mask C gs)) :: E xs gs) A) : quietsP P n S w0 Z ops L F k ({ dst := some d, op, type := ty, pos, after := af, guard := none } :: rest) ((C, [], [], xi, xo) :: Ts) E A :=
  qp_of (s := .val f) (fun xs gs hx => .inl ⟨trivial, by rw [selI_none, ownsA_none]; exact (hq xs gs hx).of_val⟩) (by rw [show A ++ (PS.val f).ak k C = A from List.append_nil A]; exact h)
theorem qp_a {Fv : Xs → Xs → Value → Prop} {N : Xs → Xs → Value → List Res} (hq : ∀ xs gs : Xs, factsAP C xs gs A → QT P n S w0 { dst := some d, op, type := ty, pos, after := af, guard := none } (E xs gs) (selI (fun j => xi.contains j) 0 L ++ ownsA (fun j => xo.contains j) xs gs A) (.any (Fv xs gs) (N xs gs)))
    (h : quietsP P n S w0 Z ops L F (k + 1) rest Ts (fun xs gs => (d, xs k) :: E xs gs) (A ++ [(k, C, fun xs gs v _ => Fv xs gs v, fun xs gs v _ => N xs gs v)])) : quietsP P n S w0 Z ops L F k ({ dst := some d, op, type := ty, pos, after := af, guard := none } :: rest) ((C, [], [], xi, xo) :: Ts) E A :=
  qp_of (s := .any (fun xs gs v _ => Fv xs gs v) (fun xs gs v _ => N xs gs v)) (fun xs gs hx => .inl ⟨trivial, by rw [selI_none, ownsA_none]; exact (hq xs gs hx).of_any⟩) h
theorem qp_end (h : F E A) : quietsP P n S w0 Z ops L F k [] Ts E A := h
end
theorem Reads.rowV {S : List Nat} {w0 : World} {L : List Res} {T : TypeId} {size m cap r : Nat} {A : Option Addr} {v : Value} {xs : List Value} (k : Nat) (hv : v = .slice A m cap) (hk : L[k]? = some (.row T size v r xs)) : Reads S w0 L A xs := by
  subst hv
  exact Reads.row k hk
section
variable {P : Program} {n : Nat} {S : List Nat} {w0 : World} {Z : List PanicEntry → World → Prop} {ops : Array Oper} {L : List Res} {d : Tmp} {ty : TypeId} {pos : String} {af : Array Edge} {F : (Xs → Xs → Env) → AkP → Prop} {k : Nat} {C ti to xi xo : List Nat} {Ts : List T5} {E : Xs → Xs → Env} {A : AkP} {rest : List Oper}
/-- append -/
theorem qp_append {t tx e : TypeId} {s x : Operand} {z : Value} {size bytes p m : Nat} {v : Xs → Xs → Value} {cs news : Xs → Xs → List Value} (hu : P.underlying t = some (.slice e)) (htx : P.underlying tx = some (.slice e)) (hi : (P.info? e).map (fun i => (i.zero, i.size, i.bytes)) = some (some z, size, bytes)) (hzs : z.cells.size = size) (hb1 : bytes ≤ 1099511627776)
    (hs : ∀ xs gs : Xs, factsAP C xs gs A → evalE (E xs gs) s = some (v xs gs)) (hp : ∀ xs gs : Xs, factsAP C xs gs A → selI (fun j => ti.contains j) 0 L ++ ownsA (fun j => to.contains j) xs gs A = [.row e size (v xs gs) p (cs xs gs)])
    (hx : ∀ xs gs : Xs, factsAP C xs gs A → ∃ B cx, evalE (E xs gs) x = some (.slice B m cx) ∧ Reads S w0 (selI (fun j => xi.contains j) 0 L ++ ownsA (fun j => xo.contains j) xs gs A) B (news xs gs))
    (hl : ∀ xs gs : Xs, factsAP C xs gs A → (news xs gs).length = m * size) (h1 : ∀ xs gs : Xs, factsAP C xs gs A → ∀ u ∈ news xs gs, u.oneCell' = true) (hbytes : (p + m) * bytes ≤ 70368744177664) (hmax : p + m ≤ 70368744177664)
    (h : quietsP P n S w0 Z ops L F (k + 1) rest Ts (fun xs gs => (d, xs k) :: E xs gs) (A ++ [(k, C, fun _ _ v _ => isSl (p + m) v, fun xs gs v _ => [.row e size v (p + m) (cs xs gs ++ news xs gs)])])) :
    quietsP P n S w0 Z ops L F k ({ dst := some d, op := .call { callee := .builtin .append, args := #[s, x], argTypes := #[t, tx] }, type := ty, pos, after := af, guard := none } :: rest) ((C, ti, to, xi, xo) :: Ts) E A :=
  qp_of (s := .any (fun _ _ v _ => isSl (p + m) v) (fun xs gs v _ => [.row e size v (p + m) (cs xs gs ++ news xs gs)])) (fun xs gs hf => .inl ⟨trivial, by
    obtain ⟨B, cx, hx1, hx2⟩ := hx xs gs hf
    rw [hp xs gs hf]
    exact ⟨fun a w R hm H => opw_append (k := 0) H rfl hu htx hi hzs hb1 (hm.eval (hs xs gs hf)) (hm.eval hx1) (hx2 w (H.sub ((List.sublist_append_left _ R).trans (List.sublist_append_right _ _)))) (hl xs gs hf) (h1 xs gs hf) hbytes hmax fun w' v' H' => ⟨v', undef, rfl, fun h => (by simp at h), by
      have hrow : Res.ok w' (.row e size v' (p + m) (cs xs gs ++ news xs gs)) := H'.get (k := 0) rfl
      obtain ⟨B', c', h3, h4, h5, _⟩ := Row.slice hrow
      exact ⟨B', c', h3, h4, h5⟩, H'⟩⟩⟩) h
end
abbrev vW (x : Nat) : Value := .int .u64 (x : Int)
def n64s (l : List Nat) : List Value := l.map vW
theorem n64s_length (l : List Nat) : (n64s l).length = l.length := by simp [n64s]
theorem n64s_one (l : List Nat) : ∀ v ∈ n64s l, v.oneCell' = true := by
  intro v hv; obtain ⟨x, _, rfl⟩ := List.mem_map.1 hv; rfl
end Go.PBYtadaihpeionniaa
end
section
namespace Go.PBYtadaihpeionniaa
open Go Go.RowKit
set_option linter.unusedSimpArgs false
set_option linter.unusedVariables false
section
variable {P : Program} {n : Nat} {S : List Nat} {w0 : World} {ops : Array Oper} {Q : QE} {rest : List Oper} {d : Tmp} {ty : TypeId} {pos : String} {af : Array Edge} {env : Env} {L : List Res}
/-- an element of several cells in a slice -/
theorem q_idxRdN {t e : TypeId} {x y : Operand} {k : IntKind} {len cap m sz : Nat} {A : Option Addr} {vs : List Value} {g : Option (Nat × Bool)} (hu : P.underlying t = some (.slice e)) (hi : (P.info? e).map (·.size) = some sz) (hx : evalE env x = some (.slice A len cap)) (hy : evalE env y = some (.int k (m : Int))) (hm : m < len) (hr : Reads S w0 L A vs) (hl : m * sz < vs.length) :
    QT P n S w0 { dst := some d, op := .indexAddr t x y, type := ty, pos, after := af, guard := g } env L (.val (ptrOf A (m * sz))) :=
  ⟨fun a w hmo H => by
    obtain ⟨ad, rfl⟩ := (hr w H).some (by omega)
    exact (q_idxS hu hi hx hy hm).run a w hmo H⟩
theorem q_loadsRd {t : TypeId} {dd : TypeDesc} {x : Operand} {A : Option Addr} {o sz : Nat} {vs us : List Value} {g : Option (Nat × Bool)} (hu : P.underlying t = some dd) (hd : (match dd with | .struct _ | .array _ _ => true | _ => false) = true) (hi : (P.info? t).map (·.size) = some sz) (hx : evalE env x = some (ptrOf A o)) (hr : Reads S w0 L A vs) (hv : (vs.drop o).take sz = us) (hl : us.length = sz) (hz : 0 < sz) :
    QT P n S w0 { dst := some d, op := .load t x, type := ty, pos, after := af, guard := g } env L (.val (.agg us.toArray)) :=
  ⟨fun a w hmo H => by
    have h1 : us.length ≤ vs.length - o := by rw [← hv, List.length_take, List.length_drop]; omega
    obtain ⟨ad, rfl⟩ := (hr w H).some (by omega)
    exact (q_loadsR (ad := ad.add o) hu hd (by rw [hi, hl]) hx (fun w H => hv ▸ ((hr w H).drop o).take sz)).run a w hmo H⟩
end
end Go.PBYtadaihpeionniaa
end
section
namespace Go.PBYtadaihpeionniaa
open Go Go.RowKit
set_option linter.unusedSimpArgs false
set_option linter.unusedVariables false
section
variable {P : Program} {n : Nat} {S : List Nat} {w0 : World} {Q : QE} {env : Env} {L L' : List Res} {ops : Array Oper} {rest : List Oper}
variable {d : Tmp} {dst : Option Tmp} {ty : TypeId} {pos : String} {af : Array Edge} {g : Option (Nat × Bool)}
end
end Go.PBYtadaihpeionniaa
end
section
namespace Go.Proofs.Ytadaihpeionniaa
open Go.RowKit Go.PBYtadaihpeionniaa
set_option maxRecDepth 10000
theorem sz3 : (Try.prog.info? 3).map (·.size) = some 1 := by kernel_rfl
theorem sz4 : (Try.prog.info? 4).map (·.size) = some 1 := by kernel_rfl
theorem in4 : (Try.prog.info? 4).map (fun i => (i.zero, i.size, i.bytes)) = some (some (Value.bool false), 1, 1) := by kernel_rfl
theorem sz5 : (Try.prog.info? 5).map (·.size) = some 1 := by kernel_rfl
theorem in5 : (Try.prog.info? 5).map (fun i => (i.zero, i.size, i.bytes)) = some (some (Value.int .u8 0), 1, 1) := by kernel_rfl
theorem sz33 : (Try.prog.info? 33).map (·.size) = some 34 := by kernel_rfl
theorem fo33_0 : fieldOff Try.prog 33 0 = some (0, 32) := by kernel_rfl
theorem fo33_1 : fieldOff Try.prog 33 1 = some (32, 1) := by kernel_rfl
theorem fo33_2 : fieldOff Try.prog 33 2 = some (33, 1) := by kernel_rfl
theorem sz34 : (Try.prog.info? 34).map (·.size) = some 1 := by kernel_rfl
theorem sz36 : (Try.prog.info? 36).map (·.size) = some 69 := by kernel_rfl
theorem fo36_0 : fieldOff Try.prog 36 0 = some (0, 1) := by kernel_rfl
theorem fo36_1 : fieldOff Try.prog 36 1 = some (1, 1) := by kernel_rfl
theorem fo36_2 : fieldOff Try.prog 36 2 = some (2, 32) := by kernel_rfl
theorem fo36_3 : fieldOff Try.prog 36 3 = some (34, 34) := by kernel_rfl
theorem fo36_4 : fieldOff Try.prog 36 4 = some (68, 1) := by kernel_rfl
theorem sz38 : (Try.prog.info? 38).map (·.size) = some 68 := by kernel_rfl
theorem fo38_3 : fieldOff Try.prog 38 3 = some (3, 1) := by kernel_rfl
theorem sz46 : (Try.prog.info? 46).map (·.size) = some 1 := by kernel_rfl
theorem sz52 : (Try.prog.info? 52).map (·.size) = some 138 := by kernel_rfl
theorem zr52 : (Try.prog.info? 52).map (·.zero) = some (some (.agg ([Value.int .i64 0] ++ [Value.int .i64 0] ++ [Value.int .i64 0] ++ bys (List.replicate 32 0) ++ bys (List.replicate 32 0) ++ [Value.int .i64 0] ++ [Value.int .i64 0] ++ [Value.slice none 0 0] ++ [Value.int .i64 0] ++ [Value.int .i64 0] ++ [Value.int .i64 0] ++ [Value.int .i64 0] ++ bys (List.replicate 32 0) ++ bys (List.replicate 32 0)).toArray)) := by kernel_rfl
theorem in52 : (Try.prog.info? 52).map (fun i => (i.zero, i.size, i.bytes)) = some (some (.agg ([Value.int .i64 0] ++ [Value.int .i64 0] ++ [Value.int .i64 0] ++ bys (List.replicate 32 0) ++ bys (List.replicate 32 0) ++ [Value.int .i64 0] ++ [Value.int .i64 0] ++ [Value.slice none 0 0] ++ [Value.int .i64 0] ++ [Value.int .i64 0] ++ [Value.int .i64 0] ++ [Value.int .i64 0] ++ bys (List.replicate 32 0) ++ bys (List.replicate 32 0)).toArray), 138, 224) := by kernel_rfl
theorem fo52_0 : fieldOff Try.prog 52 0 = some (0, 1) := by kernel_rfl
theorem fo52_1 : fieldOff Try.prog 52 1 = some (1, 69) := by kernel_rfl
theorem fo52_2 : fieldOff Try.prog 52 2 = some (70, 68) := by kernel_rfl
theorem fo57_0 : fieldOff Try.prog 57 0 = some (0, 1) := by kernel_rfl
theorem fo57_1 : fieldOff Try.prog 57 1 = some (1, 1) := by kernel_rfl
end Go.Proofs.Ytadaihpeionniaa
end
section
set_option linter.unusedSimpArgs false
set_option linter.unusedVariables false
/-! ### what a function gave up for -/
end
section
namespace Go.PBYtadaihpeionniaa
open Go Go.RowKit
/-! ### cells that are filled one by one -/
theorem splice_fill (xs : List Value) (z v : Value) (m k : Nat) (hk : xs.length = k) (hm : 0 < m) : splice (xs ++ List.replicate m z) k [v] = (xs ++ [v]) ++ List.replicate (m - 1) z := by
  subst hk
  obtain ⟨m, rfl⟩ : ∃ j, m = j + 1 := ⟨m - 1, by omega⟩
  unfold splice
  simp [List.replicate_succ, List.drop_append]
theorem splice_back (xs : List Value) (z v : Value) (m k : Nat) (hm : k + 1 = m) : splice (List.replicate m z ++ xs) k [v] = List.replicate k z ++ v :: xs := by
  subst hm
  unfold splice
  have e : List.replicate (k + 1) z = List.replicate k z ++ [z] := by rw [List.replicate_succ']
  rw [e, List.append_assoc]
  simp [List.drop_append]
/-! ### a number's bytes -/
def lowAt (n : Nat) (i : Nat) : UInt8 := UInt8.ofNat (n / 2 ^ (8 * i))
def lowB (n : Nat) (k : Nat) : List UInt8 := (List.range k).map (lowAt n)
theorem lowB_length (n k : Nat) : (lowB n k).length = k := by simp [lowB]
theorem lowB_succ (n k : Nat) : lowB n (k + 1) = lowB n k ++ [lowAt n k] := by simp [lowB, List.range_succ]
theorem lowAt_val (n i : Nat) : (n : Int) / 2 ^ (8 * i) % 256 = ((lowAt n i).toNat : Int) := by
  unfold lowAt
  rw [UInt8.toNat_ofNat']
  simp
def highB (n k : Nat) : List UInt8 := (lowB n k).reverse
theorem highB_length (n k : Nat) : (highB n k).length = k := by simp [highB, lowB_length]
/-! ### the number of bytes -/
/-! ### bits of bytes and of words -/
/-! ### rows of bytes -/
/-- v is a slice of just these bytes. -/
def BsAt (w : World) (v : Value) (l : List UInt8) : Prop := ∃ A c, v = .slice A l.length c ∧ l.length ≤ c ∧ SlAt w A (bys l)
theorem BsAt.keep {w w' : World} {v : Value} {l : List UInt8} (h : BsAt w v l) (hK : Kept [] w w') : BsAt w' v l := by
  obtain ⟨A, c, rfl, hc, h⟩ := h
  exact ⟨A, c, rfl, hc, h.keep hK⟩
/-- v is a slice of slices of bytes. -/
def RowsAt (w : World) (v : Value) (ls : List (List UInt8)) : Prop := ∃ A c vs, v = .slice A ls.length c ∧ ls.length ≤ c ∧ SlAt w A vs ∧ vs.length = ls.length ∧ ∀ (i : Nat) (u : Value) (l : List UInt8), vs[i]? = some u → ls[i]? = some l → BsAt w u l
theorem RowsAt.keep {w w' : World} {v : Value} {ls : List (List UInt8)} (h : RowsAt w v ls) (hK : Kept [] w w') : RowsAt w' v ls := by
  obtain ⟨A, c, vs, rfl, hc, h, hl, hb⟩ := h
  exact ⟨A, c, vs, rfl, hc, h.keep hK, hl, fun i u l hu hl' => (hb i u l hu hl').keep hK⟩
end Go.PBYtadaihpeionniaa
end
section
namespace Go.PBYtadaihpeionniaa
open Go Go.RowKit
set_option linter.unusedVariables false
/-- a head's cells -/
def headC (pub : List UInt8) (p q : Int) : List Value := bys pub ++ [vI p, vI q]
theorem headC_length {pub : List UInt8} (h : pub.length = 32) (p q : Int) : (headC pub p q).length = 34 := by simp [headC, h, bys]
def rightB (p q : Int) : Bool := decide (0 ≤ min p q) && decide (max p q ≤ 1000000)
theorem rightB_iff {p q : Int} : rightB p q = true ↔ 0 ≤ p ∧ p ≤ 1000000 ∧ 0 ≤ q ∧ q ≤ 1000000 := by
  unfold rightB
  rw [Bool.and_eq_true, decide_eq_true_iff, decide_eq_true_iff]
  omega
/-- a head's bytes -/
def headB (pub : List UInt8) (m n : Nat) : List UInt8 := pub ++ highB m 4 ++ highB n 4
theorem headB_length {pub : List UInt8} (h : pub.length = 32) (m n : Nat) : (headB pub m n).length = 40 := by simp [headB, highB_length, h]
end Go.PBYtadaihpeionniaa
end
section
namespace Go.Proofs.Ytadaihpeionniaa
open Go.RowKit Go.PBYtadaihpeionniaa
set_option linter.unusedVariables false
set_option maxRecDepth 10000
set_option linter.unusedSimpArgs false
theorem u8info : (Try.prog.info? 5).map (fun i => (i.zero, i.size, i.bytes)) = some (some (.int .u8 0), 1, 1) := by kernel_rfl
theorem u8size : (Try.prog.info? 5).map (·.size) = some 1 := by kernel_rfl
set_option maxHeartbeats 400000 in
theorem low_calls (n : Nat) (m K : Nat) (hK : K = min m 8) (hm : m ≤ 1000000000000000) (w : World) :
    Calls Try.prog 26 #[.int .u64 n, .int .i64 m] w fun e w' => ∃ v, e = .returned v ∧ St [] w [.row 5 1 v K (bys (lowB n K))] w' := by
  have H := St.refl w
  have hK4 : (if 8 < (m : Int) then 8 else (m : Int)) = (K : Int) := by split <;> omega
  have hK3 : K ≤ 8 := by omega
  clear hK
  have h0 : (0 : Int) ≤ (m : Int) := by omega
  go_enter Try.func26, Try.ntmps26
  go_wp2_with (first | (with_reducible refine stop_box ?_) | (with_reducible refine stop_alloc ?_) | (with_reducible refine stop_load ?_) | (with_reducible refine stop_store ?_) | (with_reducible refine stop_make ?_) | (with_reducible refine stop_lit ?_) | (with_reducible refine stop_append ?_) | (with_reducible refine stop_copy ?_) | (with_reducible refine stop_map ?_) | (with_reducible refine stop_lookup ?_) | (with_reducible refine stop_update ?_) | (with_reducible refine stop_delete ?_) | (with_reducible refine stop_clear ?_) | (with_reducible refine stop_arr ?_) | (with_reducible refine stop_idx ?_) | (with_reducible refine stop_conv (e := 34) (f := 9) ?_) | ((with_reducible refine stopg_box ?hw ?_); case hw => rfl) | ((with_reducible refine stopg_alloc ?hw ?_); case hw => rfl) | ((with_reducible refine stopg_load ?hw ?_); case hw => rfl) | ((with_reducible refine stopg_store ?hw ?_); case hw => rfl) | ((with_reducible refine stopg_make ?hw ?_); case hw => rfl) | ((with_reducible refine stopg_lit ?hw ?_); case hw => rfl) | ((with_reducible refine stopg_append ?hw ?_); case hw => rfl) | ((with_reducible refine stopg_copy ?hw ?_); case hw => rfl) | ((with_reducible refine stopg_map ?hw ?_); case hw => rfl) | ((with_reducible refine stopg_lookup ?hw ?_); case hw => rfl) | ((with_reducible refine stopg_update ?hw ?_); case hw => rfl) | ((with_reducible refine stopg_delete ?hw ?_); case hw => rfl) | ((with_reducible refine stopg_clear ?hw ?_); case hw => rfl) | ((with_reducible refine stopg_arr ?hw ?_); case hw => rfl) | ((with_reducible refine stopg_conv (e := 34) (f := 9) ?hw ?_); case hw => rfl) | ((with_reducible refine stopg_idx ?hw ?_); case hw => rfl))
  refine wpl_want rfl (opw_make H Try.underlying34 u8info rfl rfl rfl (by omega) (by simp only [maxLen]; omega) ?_)
  clear H
  intro w1 b H
  go_wp2_with (first | (with_reducible refine stop_box ?_) | (with_reducible refine stop_alloc ?_) | (with_reducible refine stop_load ?_) | (with_reducible refine stop_store ?_) | (with_reducible refine stop_make ?_) | (with_reducible refine stop_lit ?_) | (with_reducible refine stop_append ?_) | (with_reducible refine stop_copy ?_) | (with_reducible refine stop_map ?_) | (with_reducible refine stop_lookup ?_) | (with_reducible refine stop_update ?_) | (with_reducible refine stop_delete ?_) | (with_reducible refine stop_clear ?_) | (with_reducible refine stop_arr ?_) | (with_reducible refine stop_idx ?_) | (with_reducible refine stop_conv (e := 34) (f := 9) ?_) | ((with_reducible refine stopg_box ?hw ?_); case hw => rfl) | ((with_reducible refine stopg_alloc ?hw ?_); case hw => rfl) | ((with_reducible refine stopg_load ?hw ?_); case hw => rfl) | ((with_reducible refine stopg_store ?hw ?_); case hw => rfl) | ((with_reducible refine stopg_make ?hw ?_); case hw => rfl) | ((with_reducible refine stopg_lit ?hw ?_); case hw => rfl) | ((with_reducible refine stopg_append ?hw ?_); case hw => rfl) | ((with_reducible refine stopg_copy ?hw ?_); case hw => rfl) | ((with_reducible refine stopg_map ?hw ?_); case hw => rfl) | ((with_reducible refine stopg_lookup ?hw ?_); case hw => rfl) | ((with_reducible refine stopg_update ?hw ?_); case hw => rfl) | ((with_reducible refine stopg_delete ?hw ?_); case hw => rfl) | ((with_reducible refine stopg_clear ?hw ?_); case hw => rfl) | ((with_reducible refine stopg_arr ?hw ?_); case hw => rfl) | ((with_reducible refine stopg_conv (e := 34) (f := 9) ?hw ?_); case hw => rfl) | ((with_reducible refine stopg_idx ?hw ?_); case hw => rfl))
  go_loopw [13] (fun v wr => ∃ k : Nat, k ≤ K ∧ v = .int .i64 k ∧ St [] w [.blk b 5 (bys (lowB n k) ++ List.replicate (K - k) (.int .u8 0))] wr) (fun v _ => K - (intOf v).toNat)
  case atStart => exact ⟨0, Nat.zero_le _, rfl, by simpa [lowB, bys] using H⟩
  case round =>
    clear H
    obtain ⟨k, hk, rfl, H⟩ := hrel
    by_cases hlt : k < K
    · have hs : (0 : Int) ≤ 8 * (k : Int) := by omega
      have hs2 : 8 * (k : Int) ≤ 64 := by omega
      go_wp2_with (first | (with_reducible refine stop_box ?_) | (with_reducible refine stop_alloc ?_) | (with_reducible refine stop_load ?_) | (with_reducible refine stop_store ?_) | (with_reducible refine stop_make ?_) | (with_reducible refine stop_lit ?_) | (with_reducible refine stop_append ?_) | (with_reducible refine stop_copy ?_) | (with_reducible refine stop_map ?_) | (with_reducible refine stop_lookup ?_) | (with_reducible refine stop_update ?_) | (with_reducible refine stop_delete ?_) | (with_reducible refine stop_clear ?_) | (with_reducible refine stop_arr ?_) | (with_reducible refine stop_idx ?_) | (with_reducible refine stop_conv (e := 34) (f := 9) ?_) | ((with_reducible refine stopg_box ?hw ?_); case hw => rfl) | ((with_reducible refine stopg_alloc ?hw ?_); case hw => rfl) | ((with_reducible refine stopg_load ?hw ?_); case hw => rfl) | ((with_reducible refine stopg_store ?hw ?_); case hw => rfl) | ((with_reducible refine stopg_make ?hw ?_); case hw => rfl) | ((with_reducible refine stopg_lit ?hw ?_); case hw => rfl) | ((with_reducible refine stopg_append ?hw ?_); case hw => rfl) | ((with_reducible refine stopg_copy ?hw ?_); case hw => rfl) | ((with_reducible refine stopg_map ?hw ?_); case hw => rfl) | ((with_reducible refine stopg_lookup ?hw ?_); case hw => rfl) | ((with_reducible refine stopg_update ?hw ?_); case hw => rfl) | ((with_reducible refine stopg_delete ?hw ?_); case hw => rfl) | ((with_reducible refine stopg_clear ?hw ?_); case hw => rfl) | ((with_reducible refine stopg_arr ?hw ?_); case hw => rfl) | ((with_reducible refine stopg_conv (e := 34) (f := 9) ?hw ?_); case hw => rfl) | ((with_reducible refine stopg_idx ?hw ?_); case hw => rfl))
      refine wpl_want rfl (opw_store1 (k := 0) (.int .u8 ((n : Int) / 2 ^ (8 * k) % 256)) H rfl rfl rfl u8size (by simp [bys, lowB_length]; omega) rfl ?_)
      clear H
      intro w2 H
      have e : splice (bys (lowB n k) ++ List.replicate (K - k) (.int .u8 0)) k [.int .u8 ((n : Int) / 2 ^ (8 * k) % 256)] = bys (lowB n (k + 1)) ++ List.replicate (K - (k + 1)) (.int .u8 0) := by
        rw [splice_fill _ _ _ _ _ (by simp [bys, lowB_length]) (by omega), lowB_succ, lowAt_val]
        simp [bys]
        omega
      go_wp2_with (first | (with_reducible refine stop_box ?_) | (with_reducible refine stop_alloc ?_) | (with_reducible refine stop_load ?_) | (with_reducible refine stop_store ?_) | (with_reducible refine stop_make ?_) | (with_reducible refine stop_lit ?_) | (with_reducible refine stop_append ?_) | (with_reducible refine stop_copy ?_) | (with_reducible refine stop_map ?_) | (with_reducible refine stop_lookup ?_) | (with_reducible refine stop_update ?_) | (with_reducible refine stop_delete ?_) | (with_reducible refine stop_clear ?_) | (with_reducible refine stop_arr ?_) | (with_reducible refine stop_idx ?_) | (with_reducible refine stop_conv (e := 34) (f := 9) ?_) | ((with_reducible refine stopg_box ?hw ?_); case hw => rfl) | ((with_reducible refine stopg_alloc ?hw ?_); case hw => rfl) | ((with_reducible refine stopg_load ?hw ?_); case hw => rfl) | ((with_reducible refine stopg_store ?hw ?_); case hw => rfl) | ((with_reducible refine stopg_make ?hw ?_); case hw => rfl) | ((with_reducible refine stopg_lit ?hw ?_); case hw => rfl) | ((with_reducible refine stopg_append ?hw ?_); case hw => rfl) | ((with_reducible refine stopg_copy ?hw ?_); case hw => rfl) | ((with_reducible refine stopg_map ?hw ?_); case hw => rfl) | ((with_reducible refine stopg_lookup ?hw ?_); case hw => rfl) | ((with_reducible refine stopg_update ?hw ?_); case hw => rfl) | ((with_reducible refine stopg_delete ?hw ?_); case hw => rfl) | ((with_reducible refine stopg_clear ?hw ?_); case hw => rfl) | ((with_reducible refine stopg_arr ?hw ?_); case hw => rfl) | ((with_reducible refine stopg_conv (e := 34) (f := 9) ?hw ?_); case hw => rfl) | ((with_reducible refine stopg_idx ?hw ?_); case hw => rfl))
      exact ⟨⟨k + 1, by omega, by go_num, by rw [← e]; exact H⟩, by simp [intOf]; omega⟩
    · go_wp2_with (first | (with_reducible refine stop_box ?_) | (with_reducible refine stop_alloc ?_) | (with_reducible refine stop_load ?_) | (with_reducible refine stop_store ?_) | (with_reducible refine stop_make ?_) | (with_reducible refine stop_lit ?_) | (with_reducible refine stop_append ?_) | (with_reducible refine stop_copy ?_) | (with_reducible refine stop_map ?_) | (with_reducible refine stop_lookup ?_) | (with_reducible refine stop_update ?_) | (with_reducible refine stop_delete ?_) | (with_reducible refine stop_clear ?_) | (with_reducible refine stop_arr ?_) | (with_reducible refine stop_idx ?_) | (with_reducible refine stop_conv (e := 34) (f := 9) ?_) | ((with_reducible refine stopg_box ?hw ?_); case hw => rfl) | ((with_reducible refine stopg_alloc ?hw ?_); case hw => rfl) | ((with_reducible refine stopg_load ?hw ?_); case hw => rfl) | ((with_reducible refine stopg_store ?hw ?_); case hw => rfl) | ((with_reducible refine stopg_make ?hw ?_); case hw => rfl) | ((with_reducible refine stopg_lit ?hw ?_); case hw => rfl) | ((with_reducible refine stopg_append ?hw ?_); case hw => rfl) | ((with_reducible refine stopg_copy ?hw ?_); case hw => rfl) | ((with_reducible refine stopg_map ?hw ?_); case hw => rfl) | ((with_reducible refine stopg_lookup ?hw ?_); case hw => rfl) | ((with_reducible refine stopg_update ?hw ?_); case hw => rfl) | ((with_reducible refine stopg_delete ?hw ?_); case hw => rfl) | ((with_reducible refine stopg_clear ?hw ?_); case hw => rfl) | ((with_reducible refine stopg_arr ?hw ?_); case hw => rfl) | ((with_reducible refine stopg_conv (e := 34) (f := 9) ?hw ?_); case hw => rfl) | ((with_reducible refine stopg_idx ?hw ?_); case hw => rfl))
      have : k = K := by omega
      subst this
      go_ret
      exact ⟨_, rfl, by simpa using H.row1 (n := k) (by simp [bys, lowB_length]) (by simp only [maxLen]; omega)⟩
set_option maxHeartbeats 400000 in
theorem turned_calls (l : List UInt8) (A : Option Addr) (c : Nat) (w : World) (hA : SlAt w A (bys l)) (_hc : l.length ≤ c) (hl : l.length ≤ 70368744177664) :
    Calls Try.prog 25 #[.slice A l.length c] w fun e w' => ∃ v, e = .returned v ∧ St [] w [.row 5 1 v l.length (bys l.reverse)] w' := by
  have H := St.refl w
  go_enter Try.func25, Try.ntmps25
  go_wp2_with (first | (with_reducible refine stop_box ?_) | (with_reducible refine stop_alloc ?_) | (with_reducible refine stop_load ?_) | (with_reducible refine stop_store ?_) | (with_reducible refine stop_make ?_) | (with_reducible refine stop_lit ?_) | (with_reducible refine stop_append ?_) | (with_reducible refine stop_copy ?_) | (with_reducible refine stop_map ?_) | (with_reducible refine stop_lookup ?_) | (with_reducible refine stop_update ?_) | (with_reducible refine stop_delete ?_) | (with_reducible refine stop_clear ?_) | (with_reducible refine stop_arr ?_) | (with_reducible refine stop_idx ?_) | (with_reducible refine stop_conv (e := 34) (f := 9) ?_) | ((with_reducible refine stopg_box ?hw ?_); case hw => rfl) | ((with_reducible refine stopg_alloc ?hw ?_); case hw => rfl) | ((with_reducible refine stopg_load ?hw ?_); case hw => rfl) | ((with_reducible refine stopg_store ?hw ?_); case hw => rfl) | ((with_reducible refine stopg_make ?hw ?_); case hw => rfl) | ((with_reducible refine stopg_lit ?hw ?_); case hw => rfl) | ((with_reducible refine stopg_append ?hw ?_); case hw => rfl) | ((with_reducible refine stopg_copy ?hw ?_); case hw => rfl) | ((with_reducible refine stopg_map ?hw ?_); case hw => rfl) | ((with_reducible refine stopg_lookup ?hw ?_); case hw => rfl) | ((with_reducible refine stopg_update ?hw ?_); case hw => rfl) | ((with_reducible refine stopg_delete ?hw ?_); case hw => rfl) | ((with_reducible refine stopg_clear ?hw ?_); case hw => rfl) | ((with_reducible refine stopg_arr ?hw ?_); case hw => rfl) | ((with_reducible refine stopg_conv (e := 34) (f := 9) ?hw ?_); case hw => rfl) | ((with_reducible refine stopg_idx ?hw ?_); case hw => rfl))
  refine wpl_want rfl (opw_make H Try.underlying34 u8info rfl rfl rfl (by omega) (by simp only [maxLen]; omega) ?_)
  clear H
  intro w1 b H
  go_wp2_with (first | (with_reducible refine stop_box ?_) | (with_reducible refine stop_alloc ?_) | (with_reducible refine stop_load ?_) | (with_reducible refine stop_store ?_) | (with_reducible refine stop_make ?_) | (with_reducible refine stop_lit ?_) | (with_reducible refine stop_append ?_) | (with_reducible refine stop_copy ?_) | (with_reducible refine stop_map ?_) | (with_reducible refine stop_lookup ?_) | (with_reducible refine stop_update ?_) | (with_reducible refine stop_delete ?_) | (with_reducible refine stop_clear ?_) | (with_reducible refine stop_arr ?_) | (with_reducible refine stop_idx ?_) | (with_reducible refine stop_conv (e := 34) (f := 9) ?_) | ((with_reducible refine stopg_box ?hw ?_); case hw => rfl) | ((with_reducible refine stopg_alloc ?hw ?_); case hw => rfl) | ((with_reducible refine stopg_load ?hw ?_); case hw => rfl) | ((with_reducible refine stopg_store ?hw ?_); case hw => rfl) | ((with_reducible refine stopg_make ?hw ?_); case hw => rfl) | ((with_reducible refine stopg_lit ?hw ?_); case hw => rfl) | ((with_reducible refine stopg_append ?hw ?_); case hw => rfl) | ((with_reducible refine stopg_copy ?hw ?_); case hw => rfl) | ((with_reducible refine stopg_map ?hw ?_); case hw => rfl) | ((with_reducible refine stopg_lookup ?hw ?_); case hw => rfl) | ((with_reducible refine stopg_update ?hw ?_); case hw => rfl) | ((with_reducible refine stopg_delete ?hw ?_); case hw => rfl) | ((with_reducible refine stopg_clear ?hw ?_); case hw => rfl) | ((with_reducible refine stopg_arr ?hw ?_); case hw => rfl) | ((with_reducible refine stopg_conv (e := 34) (f := 9) ?hw ?_); case hw => rfl) | ((with_reducible refine stopg_idx ?hw ?_); case hw => rfl))
  go_loopw [11] (fun v wr => ∃ k : Nat, k ≤ l.length ∧ v = .int .i64 k ∧ St [] w [.blk b 5 (List.replicate (l.length - k) (.int .u8 0) ++ bys (l.take k).reverse)] wr) (fun v _ => l.length - (intOf v).toNat)
  case atStart => exact ⟨0, Nat.zero_le _, rfl, by simpa [bys] using H⟩
  case round =>
    clear H
    obtain ⟨k, hk, rfl, H⟩ := hrel
    by_cases hlt : k < l.length
    · obtain ⟨x, hx⟩ : ∃ x, l[k]? = some x := ⟨_, List.getElem?_eq_getElem (by omega)⟩
      obtain ⟨ad, rfl, hcell⟩ := (H.sl0 hA) k _ (by rw [bys_get, hx]; rfl)
      clear hA
      have hj : (0 : Int) ≤ (l.length : Int) - 1 - (k : Int) := by omega
      have hj3 : (l.length : Int) - 1 - (k : Int) < (l.length : Int) := by omega
      have hx' : Hid (l[k]? = some x) := hx
      clear hx
      go_wp2_with (first | (with_reducible refine stop_box ?_) | (with_reducible refine stop_alloc ?_) | (with_reducible refine stop_load ?_) | (with_reducible refine stop_store ?_) | (with_reducible refine stop_make ?_) | (with_reducible refine stop_lit ?_) | (with_reducible refine stop_append ?_) | (with_reducible refine stop_copy ?_) | (with_reducible refine stop_map ?_) | (with_reducible refine stop_lookup ?_) | (with_reducible refine stop_update ?_) | (with_reducible refine stop_delete ?_) | (with_reducible refine stop_clear ?_) | (with_reducible refine stop_arr ?_) | (with_reducible refine stop_idx ?_) | (with_reducible refine stop_conv (e := 34) (f := 9) ?_) | ((with_reducible refine stopg_box ?hw ?_); case hw => rfl) | ((with_reducible refine stopg_alloc ?hw ?_); case hw => rfl) | ((with_reducible refine stopg_load ?hw ?_); case hw => rfl) | ((with_reducible refine stopg_store ?hw ?_); case hw => rfl) | ((with_reducible refine stopg_make ?hw ?_); case hw => rfl) | ((with_reducible refine stopg_lit ?hw ?_); case hw => rfl) | ((with_reducible refine stopg_append ?hw ?_); case hw => rfl) | ((with_reducible refine stopg_copy ?hw ?_); case hw => rfl) | ((with_reducible refine stopg_map ?hw ?_); case hw => rfl) | ((with_reducible refine stopg_lookup ?hw ?_); case hw => rfl) | ((with_reducible refine stopg_update ?hw ?_); case hw => rfl) | ((with_reducible refine stopg_delete ?hw ?_); case hw => rfl) | ((with_reducible refine stopg_clear ?hw ?_); case hw => rfl) | ((with_reducible refine stopg_arr ?hw ?_); case hw => rfl) | ((with_reducible refine stopg_conv (e := 34) (f := 9) ?hw ?_); case hw => rfl) | ((with_reducible refine stopg_idx ?hw ?_); case hw => rfl))
      refine wpl_want rfl (opw_load Try.underlying5 rfl rfl hcell ?_)
      go_wp2_with (first | (with_reducible refine stop_box ?_) | (with_reducible refine stop_alloc ?_) | (with_reducible refine stop_load ?_) | (with_reducible refine stop_store ?_) | (with_reducible refine stop_make ?_) | (with_reducible refine stop_lit ?_) | (with_reducible refine stop_append ?_) | (with_reducible refine stop_copy ?_) | (with_reducible refine stop_map ?_) | (with_reducible refine stop_lookup ?_) | (with_reducible refine stop_update ?_) | (with_reducible refine stop_delete ?_) | (with_reducible refine stop_clear ?_) | (with_reducible refine stop_arr ?_) | (with_reducible refine stop_idx ?_) | (with_reducible refine stop_conv (e := 34) (f := 9) ?_) | ((with_reducible refine stopg_box ?hw ?_); case hw => rfl) | ((with_reducible refine stopg_alloc ?hw ?_); case hw => rfl) | ((with_reducible refine stopg_load ?hw ?_); case hw => rfl) | ((with_reducible refine stopg_store ?hw ?_); case hw => rfl) | ((with_reducible refine stopg_make ?hw ?_); case hw => rfl) | ((with_reducible refine stopg_lit ?hw ?_); case hw => rfl) | ((with_reducible refine stopg_append ?hw ?_); case hw => rfl) | ((with_reducible refine stopg_copy ?hw ?_); case hw => rfl) | ((with_reducible refine stopg_map ?hw ?_); case hw => rfl) | ((with_reducible refine stopg_lookup ?hw ?_); case hw => rfl) | ((with_reducible refine stopg_update ?hw ?_); case hw => rfl) | ((with_reducible refine stopg_delete ?hw ?_); case hw => rfl) | ((with_reducible refine stopg_clear ?hw ?_); case hw => rfl) | ((with_reducible refine stopg_arr ?hw ?_); case hw => rfl) | ((with_reducible refine stopg_conv (e := 34) (f := 9) ?hw ?_); case hw => rfl) | ((with_reducible refine stopg_idx ?hw ?_); case hw => rfl))
      refine wpl_want rfl (opw_store1 (k := 0) (.int .u8 (x.toNat : Int)) H rfl rfl rfl u8size (by simp [bys]; omega) rfl ?_)
      clear H hcell
      intro w2 H
      have e : splice (List.replicate (l.length - k) (.int .u8 0) ++ bys (l.take k).reverse) (l.length - 1 - k) [.int .u8 (x.toNat : Int)] = List.replicate (l.length - (k + 1)) (.int .u8 0) ++ bys (l.take (k + 1)).reverse := by
        rw [splice_back _ _ _ _ _ (by omega), List.take_add_one, hx'.out]
        simp [bys, Nat.sub_sub, Nat.add_comm]
      go_wp2_with (first | (with_reducible refine stop_box ?_) | (with_reducible refine stop_alloc ?_) | (with_reducible refine stop_load ?_) | (with_reducible refine stop_store ?_) | (with_reducible refine stop_make ?_) | (with_reducible refine stop_lit ?_) | (with_reducible refine stop_append ?_) | (with_reducible refine stop_copy ?_) | (with_reducible refine stop_map ?_) | (with_reducible refine stop_lookup ?_) | (with_reducible refine stop_update ?_) | (with_reducible refine stop_delete ?_) | (with_reducible refine stop_clear ?_) | (with_reducible refine stop_arr ?_) | (with_reducible refine stop_idx ?_) | (with_reducible refine stop_conv (e := 34) (f := 9) ?_) | ((with_reducible refine stopg_box ?hw ?_); case hw => rfl) | ((with_reducible refine stopg_alloc ?hw ?_); case hw => rfl) | ((with_reducible refine stopg_load ?hw ?_); case hw => rfl) | ((with_reducible refine stopg_store ?hw ?_); case hw => rfl) | ((with_reducible refine stopg_make ?hw ?_); case hw => rfl) | ((with_reducible refine stopg_lit ?hw ?_); case hw => rfl) | ((with_reducible refine stopg_append ?hw ?_); case hw => rfl) | ((with_reducible refine stopg_copy ?hw ?_); case hw => rfl) | ((with_reducible refine stopg_map ?hw ?_); case hw => rfl) | ((with_reducible refine stopg_lookup ?hw ?_); case hw => rfl) | ((with_reducible refine stopg_update ?hw ?_); case hw => rfl) | ((with_reducible refine stopg_delete ?hw ?_); case hw => rfl) | ((with_reducible refine stopg_clear ?hw ?_); case hw => rfl) | ((with_reducible refine stopg_arr ?hw ?_); case hw => rfl) | ((with_reducible refine stopg_conv (e := 34) (f := 9) ?hw ?_); case hw => rfl) | ((with_reducible refine stopg_idx ?hw ?_); case hw => rfl))
      exact ⟨⟨k + 1, by omega, by go_num, by rw [← e]; exact H⟩, by simp [intOf]; omega⟩
    · go_wp2_with (first | (with_reducible refine stop_box ?_) | (with_reducible refine stop_alloc ?_) | (with_reducible refine stop_load ?_) | (with_reducible refine stop_store ?_) | (with_reducible refine stop_make ?_) | (with_reducible refine stop_lit ?_) | (with_reducible refine stop_append ?_) | (with_reducible refine stop_copy ?_) | (with_reducible refine stop_map ?_) | (with_reducible refine stop_lookup ?_) | (with_reducible refine stop_update ?_) | (with_reducible refine stop_delete ?_) | (with_reducible refine stop_clear ?_) | (with_reducible refine stop_arr ?_) | (with_reducible refine stop_idx ?_) | (with_reducible refine stop_conv (e := 34) (f := 9) ?_) | ((with_reducible refine stopg_box ?hw ?_); case hw => rfl) | ((with_reducible refine stopg_alloc ?hw ?_); case hw => rfl) | ((with_reducible refine stopg_load ?hw ?_); case hw => rfl) | ((with_reducible refine stopg_store ?hw ?_); case hw => rfl) | ((with_reducible refine stopg_make ?hw ?_); case hw => rfl) | ((with_reducible refine stopg_lit ?hw ?_); case hw => rfl) | ((with_reducible refine stopg_append ?hw ?_); case hw => rfl) | ((with_reducible refine stopg_copy ?hw ?_); case hw => rfl) | ((with_reducible refine stopg_map ?hw ?_); case hw => rfl) | ((with_reducible refine stopg_lookup ?hw ?_); case hw => rfl) | ((with_reducible refine stopg_update ?hw ?_); case hw => rfl) | ((with_reducible refine stopg_delete ?hw ?_); case hw => rfl) | ((with_reducible refine stopg_clear ?hw ?_); case hw => rfl) | ((with_reducible refine stopg_arr ?hw ?_); case hw => rfl) | ((with_reducible refine stopg_conv (e := 34) (f := 9) ?hw ?_); case hw => rfl) | ((with_reducible refine stopg_idx ?hw ?_); case hw => rfl))
      have : k = l.length := by omega
      subst this
      go_ret
      rw [List.take_length] at H
      exact ⟨_, rfl, by simpa using H.row1 (n := l.length) (by simp [bys]) (by simp only [maxLen]; omega)⟩
set_option maxHeartbeats 400000 in
theorem high_calls (n : Nat) (m K : Nat) (hK : K = min m 8) (hm : m ≤ 1000000000000000) (w : World) :
    Calls Try.prog 22 #[.int .u64 n, .int .i64 m] w fun e w' => ∃ v, e = .returned v ∧ St [] w [.row 5 1 v K (bys (highB n K))] w' := by
  have hL := low_calls n m K hK hm w
  have hK8 : K ≤ 8 := by omega
  have H := St.refl w
  clear hK
  go_enter Try.func22, Try.ntmps22
  go_wp2_with (first | (with_reducible refine stop_box ?_) | (with_reducible refine stop_alloc ?_) | (with_reducible refine stop_load ?_) | (with_reducible refine stop_store ?_) | (with_reducible refine stop_make ?_) | (with_reducible refine stop_lit ?_) | (with_reducible refine stop_append ?_) | (with_reducible refine stop_copy ?_) | (with_reducible refine stop_map ?_) | (with_reducible refine stop_lookup ?_) | (with_reducible refine stop_update ?_) | (with_reducible refine stop_delete ?_) | (with_reducible refine stop_clear ?_) | (with_reducible refine stop_arr ?_) | (with_reducible refine stop_idx ?_) | (with_reducible refine stop_conv (e := 34) (f := 9) ?_) | ((with_reducible refine stopg_box ?hw ?_); case hw => rfl) | ((with_reducible refine stopg_alloc ?hw ?_); case hw => rfl) | ((with_reducible refine stopg_load ?hw ?_); case hw => rfl) | ((with_reducible refine stopg_store ?hw ?_); case hw => rfl) | ((with_reducible refine stopg_make ?hw ?_); case hw => rfl) | ((with_reducible refine stopg_lit ?hw ?_); case hw => rfl) | ((with_reducible refine stopg_append ?hw ?_); case hw => rfl) | ((with_reducible refine stopg_copy ?hw ?_); case hw => rfl) | ((with_reducible refine stopg_map ?hw ?_); case hw => rfl) | ((with_reducible refine stopg_lookup ?hw ?_); case hw => rfl) | ((with_reducible refine stopg_update ?hw ?_); case hw => rfl) | ((with_reducible refine stopg_delete ?hw ?_); case hw => rfl) | ((with_reducible refine stopg_clear ?hw ?_); case hw => rfl) | ((with_reducible refine stopg_arr ?hw ?_); case hw => rfl) | ((with_reducible refine stopg_conv (e := 34) (f := 9) ?hw ?_); case hw => rfl) | ((with_reducible refine stopg_idx ?hw ?_); case hw => rfl))
  refine hL.mono ?_
  clear hL
  rintro e w1 ⟨v, rfl, H1⟩
  obtain ⟨A, cap, rfl, hc, _, hA⟩ := (H1.get (k := 0) rfl).slice
  have hT := turned_calls (lowB n K) A cap w1 hA (by rw [lowB_length]; omega) (by rw [lowB_length]; omega)
  rw [lowB_length] at hT
  go_wp2_with (first | (with_reducible refine stop_box ?_) | (with_reducible refine stop_alloc ?_) | (with_reducible refine stop_load ?_) | (with_reducible refine stop_store ?_) | (with_reducible refine stop_make ?_) | (with_reducible refine stop_lit ?_) | (with_reducible refine stop_append ?_) | (with_reducible refine stop_copy ?_) | (with_reducible refine stop_map ?_) | (with_reducible refine stop_lookup ?_) | (with_reducible refine stop_update ?_) | (with_reducible refine stop_delete ?_) | (with_reducible refine stop_clear ?_) | (with_reducible refine stop_arr ?_) | (with_reducible refine stop_idx ?_) | (with_reducible refine stop_conv (e := 34) (f := 9) ?_) | ((with_reducible refine stopg_box ?hw ?_); case hw => rfl) | ((with_reducible refine stopg_alloc ?hw ?_); case hw => rfl) | ((with_reducible refine stopg_load ?hw ?_); case hw => rfl) | ((with_reducible refine stopg_store ?hw ?_); case hw => rfl) | ((with_reducible refine stopg_make ?hw ?_); case hw => rfl) | ((with_reducible refine stopg_lit ?hw ?_); case hw => rfl) | ((with_reducible refine stopg_append ?hw ?_); case hw => rfl) | ((with_reducible refine stopg_copy ?hw ?_); case hw => rfl) | ((with_reducible refine stopg_map ?hw ?_); case hw => rfl) | ((with_reducible refine stopg_lookup ?hw ?_); case hw => rfl) | ((with_reducible refine stopg_update ?hw ?_); case hw => rfl) | ((with_reducible refine stopg_delete ?hw ?_); case hw => rfl) | ((with_reducible refine stopg_clear ?hw ?_); case hw => rfl) | ((with_reducible refine stopg_arr ?hw ?_); case hw => rfl) | ((with_reducible refine stopg_conv (e := 34) (f := 9) ?hw ?_); case hw => rfl) | ((with_reducible refine stopg_idx ?hw ?_); case hw => rfl))
  refine hT.mono ?_
  clear hT
  rintro e w2 ⟨v2, rfl, H2⟩
  go_wp2_with (first | (with_reducible refine stop_box ?_) | (with_reducible refine stop_alloc ?_) | (with_reducible refine stop_load ?_) | (with_reducible refine stop_store ?_) | (with_reducible refine stop_make ?_) | (with_reducible refine stop_lit ?_) | (with_reducible refine stop_append ?_) | (with_reducible refine stop_copy ?_) | (with_reducible refine stop_map ?_) | (with_reducible refine stop_lookup ?_) | (with_reducible refine stop_update ?_) | (with_reducible refine stop_delete ?_) | (with_reducible refine stop_clear ?_) | (with_reducible refine stop_arr ?_) | (with_reducible refine stop_idx ?_) | (with_reducible refine stop_conv (e := 34) (f := 9) ?_) | ((with_reducible refine stopg_box ?hw ?_); case hw => rfl) | ((with_reducible refine stopg_alloc ?hw ?_); case hw => rfl) | ((with_reducible refine stopg_load ?hw ?_); case hw => rfl) | ((with_reducible refine stopg_store ?hw ?_); case hw => rfl) | ((with_reducible refine stopg_make ?hw ?_); case hw => rfl) | ((with_reducible refine stopg_lit ?hw ?_); case hw => rfl) | ((with_reducible refine stopg_append ?hw ?_); case hw => rfl) | ((with_reducible refine stopg_copy ?hw ?_); case hw => rfl) | ((with_reducible refine stopg_map ?hw ?_); case hw => rfl) | ((with_reducible refine stopg_lookup ?hw ?_); case hw => rfl) | ((with_reducible refine stopg_update ?hw ?_); case hw => rfl) | ((with_reducible refine stopg_delete ?hw ?_); case hw => rfl) | ((with_reducible refine stopg_clear ?hw ?_); case hw => rfl) | ((with_reducible refine stopg_arr ?hw ?_); case hw => rfl) | ((with_reducible refine stopg_conv (e := 34) (f := 9) ?hw ?_); case hw => rfl) | ((with_reducible refine stopg_idx ?hw ?_); case hw => rfl))
  go_ret
  exact ⟨_, rfl, by simpa [highB] using H1.drop.join H2⟩
end Go.Proofs.Ytadaihpeionniaa
end
section
namespace Go.PBYtadaihpeionniaa
open Go Go.RowKit
set_option linter.unusedSimpArgs false
set_option linter.unusedVariables false
/-- cells of these kinds -/
def Fits (cs : List Value) (ks : List IntKind) : Prop := cs.length = ks.length ∧ ∀ (i : Nat) q, ks[i]? = some q → ∃ n, cs[i]? = some (.int q n) ∧ (Lit.int q n).wf = true
theorem Fits.append {a b : List Value} {k l : List IntKind} (h : Fits a k) (g : Fits b l) : Fits (a ++ b) (k ++ l) := by
  refine ⟨by simp [h.1, g.1], fun i q hi => ?_⟩
  by_cases hik : i < k.length
  · rw [List.getElem?_append_left hik] at hi
    rw [List.getElem?_append_left (by rw [h.1]; exact hik)]
    exact h.2 i q hi
  · rw [List.getElem?_append_right (by omega)] at hi
    rw [List.getElem?_append_right (by rw [h.1]; omega), h.1]
    exact g.2 _ q hi
/-- k is an array or a struct of whole numbers alone, of these kinds -/
structure Flat (P : Program) (k : TypeId) (ks : List IntKind) : Prop where
  law : WideMaps.KeyLaw P k
  calm : P.eqGuardType P.depth k = false
  key : ∀ cs, Fits cs ks → ∃ l, keyOf P k (.agg cs.toArray) = some l
  eq : ∀ (w : World) {x y : Value} {lx ly : Lit}, keyOf P k x = some lx → keyOf P k y = some ly → ∃ r : Bool, (Op.equal k x y).run P w = .ok r w ∧ (r = true ↔ lx = ly)
theorem Flat.equal {P : Program} {k : TypeId} {ks : List IntKind} (F : Flat P k ks) (w : World) {xs ys : List Value} (hx : Fits xs ks) (hy : Fits ys ks) :
    ∃ r : Bool, (Op.equal k (.agg xs.toArray) (.agg ys.toArray)).run P w = .ok r w ∧ (r = true ↔ xs = ys) := by
  obtain ⟨lx, h1⟩ := F.key xs hx
  obtain ⟨ly, h2⟩ := F.key ys hy
  obtain ⟨r, hr, hi⟩ := F.eq w h1 h2
  refine ⟨r, hr, hi.trans ⟨?_, ?_⟩⟩
  · rintro rfl
    have := F.law.inj h1 h2
    simpa using this
  · rintro rfl
    rw [h1] at h2
    exact Option.some.inj h2
end Go.PBYtadaihpeionniaa
end
section
namespace Go.PBYtadaihpeionniaa
open Go Go.RowKit Go.ChangeShapes Go.WideShapes Go.ChangeAt
set_option linter.unusedSimpArgs false
set_option linter.unusedVariables false
section
variable {H : Type} {enc : TypeId × Value → H} {P : Program} {w : World} {r : Reach} {b0 : Nat}
end
end Go.PBYtadaihpeionniaa
end
section
namespace Go.PBYtadaihpeionniaa
open Go Go.RowKit Go.ChangeShapes Go.WideShapes Go.ChangeAt
set_option linter.unusedSimpArgs false
set_option linter.unusedVariables false
theorem Fits.parts {cs : List Value} {ks : List IntKind} (n : Nat) (h : Fits cs ks) : Fits (cs.take n) (ks.take n) ∧ Fits (cs.drop n) (ks.drop n) := by
  refine ⟨⟨by simp [h.1], fun i q hi => ?_⟩, ⟨by simp [h.1], fun i q hi => ?_⟩⟩
  · rw [List.getElem?_take] at hi ⊢
    split at hi
    · rename_i hl; rw [if_pos hl]; exact h.2 i q hi
    · cases hi
  · rw [List.getElem?_drop] at hi ⊢
    exact h.2 _ q hi
theorem Fits.split {cs : List Value} {k l : List IntKind} (h : Fits cs (k ++ l)) : ∃ a b, cs = a ++ b ∧ Fits a k ∧ Fits b l := by
  have h1 := h.parts k.length
  rw [List.take_left, List.drop_left] at h1
  exact ⟨_, _, (List.take_append_drop k.length cs).symm, h1.1, h1.2⟩
theorem Fits.bytes : ∀ {n : Nat} {cs : List Value}, Fits cs (List.replicate n .u8) → ∃ l : List UInt8, l.length = n ∧ cs = bys l
  | 0, cs, h => ⟨[], rfl, List.eq_nil_of_length_eq_zero (by simpa using h.1)⟩
  | n + 1, cs, h => by
    rw [List.replicate_succ] at h
    cases cs with
    | nil => have := h.1; simp at this
    | cons v cs =>
      have h0 := h.2 0 .u8 rfl
      obtain ⟨x, hx, hw⟩ := h0
      simp only [List.getElem?_cons_zero, Option.some.injEq] at hx
      subst hx
      have h1 := (h.parts 1).2
      obtain ⟨l, hl, rfl⟩ := Fits.bytes (n := n) (cs := cs) (by simpa using h1)
      refine ⟨UInt8.ofNat x.toNat :: l, by simp [hl], ?_⟩
      simp only [bys, List.map_cons]
      congr 2
      simp only [Lit.wf, Bool.and_eq_true, decide_eq_true_eq] at hw
      have h2 : IntKind.u8.min = 0 := rfl
      have h3 : IntKind.u8.max = 255 := rfl
      rw [h2, h3] at hw
      rw [UInt8.toNat_ofNat_of_lt' (by show x.toNat < 256; omega)]
      omega
theorem Fits.one {k : IntKind} {cs : List Value} (h : Fits cs [k]) : ∃ x, cs = [.int k x] ∧ (Lit.int k x).wf = true := by
  obtain ⟨x, hx, hw⟩ := h.2 0 k rfl
  have hl : cs.length = 1 := h.1
  cases cs with
  | nil => simp at hl
  | cons v r =>
    simp only [List.getElem?_cons_zero, Option.some.injEq] at hx
    subst hx
    cases r with
    | nil => exact ⟨x, rfl, hw⟩
    | cons u r => simp at hl
end Go.PBYtadaihpeionniaa
end
section
namespace Go.Proofs.Ytadaihpeionniaa
open Go.RowKit Go.PBYtadaihpeionniaa
set_option linter.unusedVariables false
set_option linter.unusedSimpArgs false
set_option maxRecDepth 10000
theorem hright_calls (pub : List UInt8) (p q : Int) (hp : pub.length = 32) (w : World) :
    Calls Try.prog 24 #[.agg (headC pub p q).toArray] w fun e w' => e = .returned (.bool (rightB p q)) ∧ Kept [] w w' := by
  have h0 := headC_length hp p q
  have g0 : (headC pub p q)[32]? = some (vI p) := by unfold headC; rw [List.getElem?_append_right (by simp [bys, hp])]; simp [bys, hp]
  have g1 : (headC pub p q)[33]? = some (vI q) := by unfold headC; rw [List.getElem?_append_right (by simp [bys, hp])]; simp [bys, hp]
  obtain ⟨c, hc⟩ : ∃ c, headC pub p q = c := ⟨_, rfl⟩
  rw [hc] at h0 g0 g1 ⊢
  refine enter (n := 17) (R := fun e L => e = .returned (.bool (rightB p q))) [.agg c.toArray] Try.func24 rfl rfl rfl (St.refl w) ?_ (fun e w' L' h H => ⟨h, H.kept⟩)
  refine VC_seq ?_
  refine VC_region ?_
  refine l_boxA rfl rfl ?_
  intro b1
  refine vl_v (q_assign rfl) rfl ?_
  refine vl_nil ?_
  refine (th_n ?_)
  refine VC_seq ?_
  refine VC_region ?_
  refine vl_v (q_fldA fo33_1 (by decide) rfl rfl) rfl ?_
  refine vl_v (q_load 0 Try.underlying3 rfl rfl rfl g0) rfl ?_
  refine vl_v (q_fldA fo33_2 (by decide) rfl rfl) rfl ?_
  refine vl_v (q_load 0 Try.underlying3 rfl rfl rfl g1) rfl ?_
  refine vl_v (q_minI rfl rfl) rfl ?_
  refine vl_v (q_geq_k Try.underlying3 rfl rfl) rfl ?_
  by_cases hs8 : 0 ≤ min p q
  · skip
    rw [show decide (0 ≤ min p q) = true from decide_eq_true hs8]
    refine vl_v (q_move rfl) rfl ?_
    refine vl_vg rfl (q_fldA fo33_1 (by decide) rfl rfl) rfl ?_
    refine vl_vg rfl (q_load 0 Try.underlying3 rfl rfl rfl g0) rfl ?_
    refine vl_vg rfl (q_fldA fo33_2 (by decide) rfl rfl) rfl ?_
    refine vl_vg rfl (q_load 0 Try.underlying3 rfl rfl rfl g1) rfl ?_
    refine vl_vg rfl (q_maxI rfl rfl) rfl ?_
    refine vl_vg rfl (q_leq_k Try.underlying3 rfl rfl) rfl ?_
    refine vl_v (q_pickT rfl rfl) rfl ?_
    refine vl_v (q_assign rfl) rfl ?_
    refine vl_nil ?_
    refine (th_n ?_)
    refine VC_ret ?_
    refine ⟨_, res1 rfl rfl, ?_⟩
    exact congrArg (fun b => Ending.returned (Value.bool b)) (by unfold rightB; first | (rw [decide_eq_true hs8, Bool.true_and]) | (rw [decide_eq_false hs8, Bool.false_and]))
  · skip
    rw [show decide (0 ≤ min p q) = false from decide_eq_false hs8]
    refine vl_v (q_move rfl) rfl ?_
    refine vl_skip rfl rfl ?_
    refine vl_skip rfl rfl ?_
    refine vl_skip rfl rfl ?_
    refine vl_skip rfl rfl ?_
    refine vl_skip rfl rfl ?_
    refine vl_skip rfl rfl ?_
    refine vl_v (q_pickF rfl rfl) rfl ?_
    refine vl_v (q_assign rfl) rfl ?_
    refine vl_nil ?_
    refine (th_n ?_)
    refine VC_ret ?_
    refine ⟨_, res1 rfl rfl, ?_⟩
    exact congrArg (fun b => Ending.returned (Value.bool b)) (by unfold rightB; first | (rw [decide_eq_true hs8, Bool.true_and]) | (rw [decide_eq_false hs8, Bool.false_and]))
end Go.Proofs.Ytadaihpeionniaa
end
section
namespace Go.Proofs.Ytadaihpeionniaa
open Go.RowKit Go.PBYtadaihpeionniaa
set_option linter.unusedVariables false
set_option linter.unusedSimpArgs false
set_option maxRecDepth 10000
theorem splice_all (xs vs : List Value) (h : vs.length = xs.length) : splice xs 0 vs = vs := by
  unfold splice
  simp [h]
end Go.Proofs.Ytadaihpeionniaa
end
section
namespace Go.Proofs.Ytadaihpeionniaa
open Go.RowKit Go.PBYtadaihpeionniaa
set_option linter.unusedVariables false
set_option linter.unusedSimpArgs false
set_option maxRecDepth 10000
end Go.Proofs.Ytadaihpeionniaa
end
section
namespace Go.Proofs.Ytadaihpeionniaa
open Go.RowKit Go.PBYtadaihpeionniaa
set_option linter.unusedVariables false
set_option linter.unusedSimpArgs false
set_option maxRecDepth 10000
end Go.Proofs.Ytadaihpeionniaa
end
section
namespace Go.Proofs.Ytadaihpeionniaa
open Go.RowKit Go.PBYtadaihpeionniaa
set_option linter.unusedVariables false
set_option maxRecDepth 10000
set_option linter.unusedSimpArgs false
end Go.Proofs.Ytadaihpeionniaa
end
section
namespace Go.Proofs.Ytadaihpeionniaa
open Go.RowKit Go.PBYtadaihpeionniaa
set_option linter.unusedVariables false
set_option maxRecDepth 10000
set_option linter.unusedSimpArgs false
end Go.Proofs.Ytadaihpeionniaa
end
section
namespace Go.Proofs.Ytadaihpeionniaa
open Go.RowKit Go.PBYtadaihpeionniaa
set_option linter.unusedVariables false
set_option maxRecDepth 10000
set_option linter.unusedSimpArgs false
end Go.Proofs.Ytadaihpeionniaa
end
section
namespace Go.PBYtadaihpeionniaa
open Go Go.RowKit
set_option linter.unusedSimpArgs false
set_option linter.unusedVariables false
theorem ww {x : Nat} (h : x < 18446744073709551616) : IntKind.u64.wrap (x : Int) = (x : Int) := by
  simp only [IntKind.wrap, IntKind.bits, IntKind.signed]
  simp only [Bool.false_and, Bool.false_eq_true, if_false]
  omega
section
variable {P : Program} {n : Nat} {S : List Nat} {w0 : World} {ops : Array Oper} {Q : QE} {rest : List Oper} {d : Tmp} {ty : TypeId} {pos : String} {af : Array Edge} {g : Option (Nat × Bool)} {env : Env} {L : List Res} {T T' : TypeId} {x y : Operand}
theorem q_conv_nw {src dst : TypeId} {ds : TypeDesc} {k' : IntKind} {p : Nat} (hs : P.underlying src = some ds) (hd : P.underlying dst = some (.int .u64)) (hx : evalE env x = some (.int k' (p : Int))) (h : p < 18446744073709551616) :
    QT P n S w0 { dst := some d, op := .convert src dst x, type := ty, pos, after := af, guard := g } env L (.val (vW p)) :=
  q_conv_k hs hd hx (ww h)
end
end Go.PBYtadaihpeionniaa
end
section
namespace Go.Proofs.Ytadaihpeionniaa
open Go.RowKit Go.PBYtadaihpeionniaa
set_option linter.unusedVariables false
set_option linter.unusedSimpArgs false
set_option maxRecDepth 10000
theorem headC_at32 {pub : List UInt8} (hp : pub.length = 32) (p q : Int) : (headC pub p q)[32]? = some (vI p) := by unfold headC; rw [List.getElem?_append_right (by simp [bys, hp])]; simp [bys, hp]
theorem headC_at33 {pub : List UInt8} (hp : pub.length = 32) (p q : Int) : (headC pub p q)[33]? = some (vI q) := by unfold headC; rw [List.getElem?_append_right (by simp [bys, hp])]; simp [bys, hp]
theorem headC_pub {pub : List UInt8} (hp : pub.length = 32) (p q : Int) : (headC pub p q).take 32 = bys pub := by unfold headC; rw [List.take_left' (by simp [bys, hp])]
def rowTo (w : World) (n : Nat) (l : List UInt8) (u : Value) (e : Ending) (L : List Res) : Prop := ∃ v, e = .returned (.tuple #[v, u]) ∧ ∀ w', St [] w L w' → St [] w [.row 5 1 v n (bys l)] w'
theorem hbytes_ok (pub : List UInt8) (x y : Nat) (hp : pub.length = 32) (hx : x ≤ 1000000) (hy : y ≤ 1000000) (w : World) :
    Calls Try.prog 21 #[.agg (headC pub x y).toArray] w fun e w' => ∃ v, e = .returned (.tuple #[v, vN 0]) ∧ St [] w [.row 5 1 v 40 (bys (headB pub x y))] w' := by
  have h0 := headC_length hp x y
  have g0 := headC_at32 hp x y
  have g1 := headC_at33 hp x y
  have g2 := headC_pub hp x y
  have hr : rightB x y = true := rightB_iff.2 (by omega)
  have hri := hright_calls pub x y hp
  have l1 := highB_length x 4
  have l2 := highB_length y 4
  have hb : headB pub x y = pub ++ highB x 4 ++ highB y 4 := rfl
  rw [hb]
  obtain ⟨u1, hu1⟩ : ∃ u, highB x 4 = u := ⟨_, rfl⟩
  obtain ⟨u2, hu2⟩ : ∃ u, highB y 4 = u := ⟨_, rfl⟩
  obtain ⟨c, hc⟩ : ∃ c, headC pub x y = c := ⟨_, rfl⟩
  rw [hc] at h0 g0 g1 g2 hri ⊢
  rw [hu1] at l1
  rw [hu2] at l2
  rw [hu1, hu2]
  refine enter (n := 24) (R := rowTo w 40 (pub ++ u1 ++ u2) (vN 0)) [.agg c.toArray] Try.func21 rfl rfl rfl (St.refl w) ?_ (fun e w' L' h H => by obtain ⟨v, h1, h2⟩ := h; exact ⟨v, h1, h2 w' H⟩)
  refine VC_seq ?_
  refine VC_region ?_
  refine l_boxA rfl rfl ?_
  intro b1
  refine vl_v (q_assign rfl) rfl ?_
  refine vl_v (q_assign rfl) rfl ?_
  refine vl_nil ?_
  refine (th_n ?_)
  refine VC_seq ?_
  refine VC_seq ?_
  refine VC_region ?_
  refine vl_v (q_loads 0 Try.underlying33 rfl rfl rfl sz33 h0) rfl ?_
  refine vl_v (q_as (v := .bool true) (q_callV Try.func24 rfl rfl rfl (fun w1 H1 => hri w1)) (by rw [hr])) rfl ?_
  refine vl_v (q_not rfl) rfl ?_
  refine vl_nil ?_
  refine (th_n ?_)
  refine VC_no (rfl) ?_
  refine VC_skip ?_
  refine (th_n ?_)
  refine VC_seq ?_
  refine VC_region ?_
  refine l_litA (cs := bys []) Try.underlying34 in5 (by decide) rfl rfl rfl rfl (by exact one_all rfl) rfl rfl ?_
  intro b8
  refine vl_v (q_fldA fo33_0 (by decide) rfl rfl) rfl ?_
  refine vl_v (q_slcA Try.underlying31 sz5 rfl rfl rfl rfl (.inl rfl) (by omega) (by omega) (by omega) (by omega) (by (try simp only [Nat.mul_one, Nat.zero_add, Nat.zero_mul, Nat.mul_zero, Nat.add_zero]) <;> rfl)) rfl ?_
  refine l_append 0 rfl rfl rfl Try.underlying34 Try.underlying34 in5 rfl (by decide) (Reads.take (Reads.blk 1 rfl) 32 g2) (by simp only [zb, zu, zw, zi, n64s_length, za]; omega) (by with_reducible first | exact bys_one _ | exact u32s_one _ | exact u64s_one _ | exact i64s_one _ | exact n64s_one _ | assumption) (by omega) (by omega) rfl ?_
  intro A11 c11 hc11
  simp only [List.set_cons_zero, List.set_cons_succ, ← bys_append, ← u32s_append, ← u64s_append, ← i64s_append, List.nil_append, Nat.zero_add]
  refine vl_v (q_assign rfl) rfl ?_
  refine vl_nil ?_
  refine (th_n ?_)
  refine VC_seq ?_
  refine VC_region ?_
  refine vl_v (q_move rfl) rfl ?_
  refine vl_v (q_fldA fo33_1 (by decide) rfl rfl) rfl ?_
  refine vl_v (q_load 1 Try.underlying3 rfl rfl rfl g0) rfl ?_
  refine vl_v (q_conv_nw Try.underlying3 Try.underlying67 rfl (by omega)) rfl ?_
  refine l_callR Try.func22 rfl rfl rfl (fun w1 H1 => hu1 ▸ high_calls x 4 4 rfl (by omega) w1) rfl ?_
  intro A16 c16 hc16 hm16
  refine l_append 1 rfl rfl rfl Try.underlying34 Try.underlying34 in5 rfl (by decide) (Reads.row 0 rfl) (by simp only [zb, zu, zw, zi, n64s_length, za]; omega) (by with_reducible first | exact bys_one _ | exact u32s_one _ | exact u64s_one _ | exact i64s_one _ | exact n64s_one _ | assumption) (by omega) (by omega) rfl ?_
  intro A17 c17 hc17
  simp only [List.set_cons_zero, List.set_cons_succ, ← bys_append, ← u32s_append, ← u64s_append, ← i64s_append, List.nil_append, Nat.zero_add]
  refine vl_v (q_assign rfl) rfl ?_
  refine vl_nil ?_
  refine (th_n ?_)
  refine VC_seq ?_
  refine VC_region ?_
  refine vl_v (q_move rfl) rfl ?_
  refine vl_v (q_fldA fo33_2 (by decide) rfl rfl) rfl ?_
  refine vl_v (q_load 2 Try.underlying3 rfl rfl rfl g1) rfl ?_
  refine vl_v (q_conv_nw Try.underlying3 Try.underlying67 rfl (by omega)) rfl ?_
  refine l_callR Try.func22 rfl rfl rfl (fun w1 H1 => hu2 ▸ high_calls y 4 4 rfl (by omega) w1) rfl ?_
  intro A22 c22 hc22 hm22
  refine l_append 2 rfl rfl rfl Try.underlying34 Try.underlying34 in5 rfl (by decide) (Reads.row 0 rfl) (by simp only [zb, zu, zw, zi, n64s_length, za]; omega) (by with_reducible first | exact bys_one _ | exact u32s_one _ | exact u64s_one _ | exact i64s_one _ | exact n64s_one _ | assumption) (by omega) (by omega) rfl ?_
  intro A23 c23 hc23
  simp only [List.set_cons_zero, List.set_cons_succ, ← bys_append, ← u32s_append, ← u64s_append, ← i64s_append, List.nil_append, Nat.zero_add]
  refine vl_v (q_assign rfl) rfl ?_
  refine vl_v (q_assign rfl) rfl ?_
  refine vl_nil ?_
  refine (th_n ?_)
  refine VC_ret ?_
  refine ⟨_, res2 rfl rfl rfl, ?_⟩
  exact ⟨_, rfl, fun w' H => by simpa [bys_append, List.append_assoc] using H.pick (ks := [2]) (by decide) rfl⟩
end Go.Proofs.Ytadaihpeionniaa
end
section
namespace Go.Proofs.Ytadaihpeionniaa
open Go.RowKit Go.PBYtadaihpeionniaa
set_option linter.unusedVariables false
set_option linter.unusedSimpArgs false
set_option maxRecDepth 10000
end Go.Proofs.Ytadaihpeionniaa
end
section
namespace Go.PBYtadaihpeionniaa
open Go Go.RowKit
set_option linter.unusedVariables false
set_option linter.unusedSimpArgs false
/-- an envelope's cells -/
def envC (f t : Int) (cm pub : List UInt8) (p q : Int) (sl : Value) : List Value := [vI f, vI t] ++ (bys cm ++ (headC pub p q ++ [sl]))
structure EnvF (c : List Value) (f t : Int) (cm pub : List UInt8) (p q : Int) (sl : Value) : Prop where
  len : c.length = 69
  g0 : c[0]? = some (vI f)
  g1 : c[1]? = some (vI t)
  g2 : (c.drop 2).take 32 = bys cm
  g3 : (c.drop 34).take 34 = headC pub p q
  g4 : c[68]? = some sl
theorem envC_f {f t : Int} {cm pub : List UInt8} {p q : Int} {sl : Value} (hc : cm.length = 32) (hp : pub.length = 32) : EnvF (envC f t cm pub p q sl) f t cm pub p q sl := by
  have h1 : (bys cm).length = 32 := by simp [bys, hc]
  have h2 := headC_length hp p q
  refine ⟨?_, rfl, rfl, ?_, ?_, ?_⟩
  · simp [envC, h1, h2]
  · show (bys cm ++ (headC pub p q ++ [sl])).take 32 = _
    rw [List.take_left' h1]
  · show ((bys cm ++ (headC pub p q ++ [sl])).drop 32).take 34 = _
    rw [List.drop_left' h1, List.take_left' h2]
  · show (bys cm ++ (headC pub p q ++ [sl]))[66]? = _
    rw [List.getElem?_append_right (by omega), h1, List.getElem?_append_right (by omega), h2]
    rfl
def rightEB (f t p q : Int) (n : Nat) : Bool := decide (0 ≤ min f t) && decide (max f t < 8) && rightB p q && decide (n ≤ 600)
theorem rightEB_iff {f t p q : Int} {n : Nat} : rightEB f t p q n = true ↔ (0 ≤ f ∧ f ≤ 7 ∧ 0 ≤ t ∧ t ≤ 7) ∧ rightB p q = true ∧ n ≤ 600 := by
  unfold rightEB
  rw [Bool.and_eq_true, Bool.and_eq_true, Bool.and_eq_true, decide_eq_true_iff, decide_eq_true_iff, decide_eq_true_iff]
  constructor
  · rintro ⟨⟨⟨h1, h2⟩, h3⟩, h4⟩; exact ⟨by omega, h3, h4⟩
  · rintro ⟨h1, h2, h3⟩; exact ⟨⟨⟨by omega, by omega⟩, h2⟩, h3⟩
/-- an envelope's bytes -/
def envB (f t : Nat) (cm pub : List UInt8) (x y : Nat) (body : List UInt8) : List UInt8 := [UInt8.ofNat f, UInt8.ofNat t] ++ cm ++ headB pub x y ++ highB body.length 2 ++ body
theorem envB_length {f t : Nat} {cm pub : List UInt8} {x y : Nat} {body : List UInt8} (hc : cm.length = 32) (hp : pub.length = 32) : (envB f t cm pub x y body).length = 76 + body.length := by
  simp only [envB, List.length_append, List.length_cons, List.length_nil, hc, headB_length hp, highB_length]
end Go.PBYtadaihpeionniaa
end
section
namespace Go.Proofs.Ytadaihpeionniaa
open Go.RowKit Go.PBYtadaihpeionniaa
set_option linter.unusedVariables false
set_option linter.unusedSimpArgs false
set_option maxRecDepth 10000
theorem hrightE_calls (f t : Int) (cm pub : List UInt8) (p q : Int) (n cB : Nat) (B : Option Addr) (hc : cm.length = 32) (hp : pub.length = 32) (w : World) :
    Calls Try.prog 20 #[.agg (envC f t cm pub p q (.slice B n cB)).toArray] w fun e w' => e = .returned (.bool (rightEB f t p q n)) ∧ Kept [] w w' := by
  have hF := envC_f (f := f) (t := t) (p := p) (q := q) (sl := .slice B n cB) hc hp
  obtain ⟨c, hcc⟩ : ∃ c, envC f t cm pub p q (.slice B n cB) = c := ⟨_, rfl⟩
  rw [hcc] at hF ⊢
  obtain ⟨h0, g0, g1, g2, g3, g4⟩ := hF
  have hh := headC_length hp p q
  obtain ⟨r, hr⟩ : ∃ r, rightB p q = r := ⟨_, rfl⟩
  have hri := hright_calls pub p q hp
  rw [hr] at hri
  have hre : rightEB f t p q n = (decide (0 ≤ min f t) && decide (max f t < 8) && r && decide (n ≤ 600)) := by rw [← hr]; rfl
  have hre2 : rightEB f t p q n = (decide (0 ≤ f) && decide (f ≤ 7) && decide (0 ≤ t) && decide (t ≤ 7) && r && decide (n ≤ 600)) := by
    rw [Bool.eq_iff_iff, rightEB_iff, hr]
    simp only [Bool.and_eq_true, decide_eq_true_iff, and_assoc]
  refine enter (n := 28) (R := fun e L => e = .returned (.bool (rightEB f t p q n))) [.agg c.toArray] Try.func20 rfl rfl rfl (St.refl w) ?_ (fun e w' L' h H => ⟨h, H.kept⟩)
  cases r
  · skip
    refine VC_seq ?_
    refine VC_region ?_
    refine l_boxA rfl rfl ?_
    intro b1
    refine vl_v (q_assign rfl) rfl ?_
    refine vl_nil ?_
    refine (th_n ?_)
    refine VC_seq ?_
    refine VC_region ?_
    refine vl_v (q_fldA fo36_0 (by decide) rfl rfl) rfl ?_
    refine vl_v (q_load 0 Try.underlying3 rfl rfl rfl g0) rfl ?_
    refine vl_v (q_fldA fo36_1 (by decide) rfl rfl) rfl ?_
    refine vl_v (q_load 0 Try.underlying3 rfl rfl rfl g1) rfl ?_
    refine vl_v (q_minI rfl rfl) rfl ?_
    refine vl_v (q_geq_k Try.underlying3 rfl rfl) rfl ?_
    by_cases hs8 : 0 ≤ min f t
    · skip
      rw [show decide (0 ≤ min f t) = true from decide_eq_true hs8]
      refine vl_v (q_move rfl) rfl ?_
      refine vl_vg rfl (q_fldA fo36_0 (by decide) rfl rfl) rfl ?_
      refine vl_vg rfl (q_load 0 Try.underlying3 rfl rfl rfl g0) rfl ?_
      refine vl_vg rfl (q_fldA fo36_1 (by decide) rfl rfl) rfl ?_
      refine vl_vg rfl (q_load 0 Try.underlying3 rfl rfl rfl g1) rfl ?_
      refine vl_vg rfl (q_maxI rfl rfl) rfl ?_
      refine vl_vg rfl (q_lss_k Try.underlying3 rfl rfl) rfl ?_
      by_cases hs15 : max f t < 8
      · skip
        rw [show decide (max f t < 8) = true from decide_eq_true hs15]
        refine vl_v (q_pickT rfl rfl) rfl ?_
        refine vl_v (q_move rfl) rfl ?_
        refine vl_vg rfl (q_fldA fo36_3 (by decide) rfl rfl) rfl ?_
        refine vl_vg rfl (q_loadsAt 0 Try.underlying33 rfl rfl rfl sz33 g3 hh) rfl ?_
        refine vl_vg rfl (q_callV Try.func24 rfl rfl rfl (fun w1 H1 => hri w1)) rfl ?_
        refine vl_v (q_pickT rfl rfl) rfl ?_
        refine vl_v (q_move rfl) rfl ?_
        refine vl_skip rfl rfl ?_
        refine vl_skip rfl rfl ?_
        refine vl_skip rfl rfl ?_
        refine vl_skip rfl rfl ?_
        refine vl_v (q_pickF rfl rfl) rfl ?_
        refine vl_v (q_assign rfl) rfl ?_
        refine vl_nil ?_
        refine (th_n ?_)
        refine VC_ret ?_
        refine ⟨_, res1 rfl rfl, ?_⟩
        exact congrArg (fun b => Ending.returned (Value.bool b)) (by rw [hre]; (first | rw [decide_eq_true hs8, decide_eq_true hs15] | rw [decide_eq_true hs8, decide_eq_false hs15] | rw [decide_eq_false hs8]) <;> rfl)
      · skip
        rw [show decide (max f t < 8) = false from decide_eq_false hs15]
        refine vl_v (q_pickT rfl rfl) rfl ?_
        refine vl_v (q_move rfl) rfl ?_
        refine vl_skip rfl rfl ?_
        refine vl_skip rfl rfl ?_
        refine vl_skip rfl rfl ?_
        refine vl_v (q_pickF rfl rfl) rfl ?_
        refine vl_v (q_move rfl) rfl ?_
        refine vl_skip rfl rfl ?_
        refine vl_skip rfl rfl ?_
        refine vl_skip rfl rfl ?_
        refine vl_skip rfl rfl ?_
        refine vl_v (q_pickF rfl rfl) rfl ?_
        refine vl_v (q_assign rfl) rfl ?_
        refine vl_nil ?_
        refine (th_n ?_)
        refine VC_ret ?_
        refine ⟨_, res1 rfl rfl, ?_⟩
        exact congrArg (fun b => Ending.returned (Value.bool b)) (by rw [hre]; (first | rw [decide_eq_true hs8, decide_eq_true hs15] | rw [decide_eq_true hs8, decide_eq_false hs15] | rw [decide_eq_false hs8]) <;> rfl)
    · skip
      rw [show decide (0 ≤ min f t) = false from decide_eq_false hs8]
      refine vl_v (q_move rfl) rfl ?_
      refine vl_skip rfl rfl ?_
      refine vl_skip rfl rfl ?_
      refine vl_skip rfl rfl ?_
      refine vl_skip rfl rfl ?_
      refine vl_skip rfl rfl ?_
      refine vl_skip rfl rfl ?_
      refine vl_v (q_pickF rfl rfl) rfl ?_
      refine vl_v (q_move rfl) rfl ?_
      refine vl_skip rfl rfl ?_
      refine vl_skip rfl rfl ?_
      refine vl_skip rfl rfl ?_
      refine vl_v (q_pickF rfl rfl) rfl ?_
      refine vl_v (q_move rfl) rfl ?_
      refine vl_skip rfl rfl ?_
      refine vl_skip rfl rfl ?_
      refine vl_skip rfl rfl ?_
      refine vl_skip rfl rfl ?_
      refine vl_v (q_pickF rfl rfl) rfl ?_
      refine vl_v (q_assign rfl) rfl ?_
      refine vl_nil ?_
      refine (th_n ?_)
      refine VC_ret ?_
      refine ⟨_, res1 rfl rfl, ?_⟩
      exact congrArg (fun b => Ending.returned (Value.bool b)) (by rw [hre]; (first | rw [decide_eq_true hs8, decide_eq_true hs15] | rw [decide_eq_true hs8, decide_eq_false hs15] | rw [decide_eq_false hs8]) <;> rfl)
  · skip
    refine VC_seq ?_
    refine VC_region ?_
    refine l_boxA rfl rfl ?_
    intro b1
    refine vl_v (q_assign rfl) rfl ?_
    refine vl_nil ?_
    refine (th_n ?_)
    refine VC_seq ?_
    refine VC_region ?_
    refine vl_v (q_fldA fo36_0 (by decide) rfl rfl) rfl ?_
    refine vl_v (q_load 0 Try.underlying3 rfl rfl rfl g0) rfl ?_
    refine vl_v (q_fldA fo36_1 (by decide) rfl rfl) rfl ?_
    refine vl_v (q_load 0 Try.underlying3 rfl rfl rfl g1) rfl ?_
    refine vl_v (q_minI rfl rfl) rfl ?_
    refine vl_v (q_geq_k Try.underlying3 rfl rfl) rfl ?_
    by_cases hs8 : 0 ≤ min f t
    · skip
      rw [show decide (0 ≤ min f t) = true from decide_eq_true hs8]
      refine vl_v (q_move rfl) rfl ?_
      refine vl_vg rfl (q_fldA fo36_0 (by decide) rfl rfl) rfl ?_
      refine vl_vg rfl (q_load 0 Try.underlying3 rfl rfl rfl g0) rfl ?_
      refine vl_vg rfl (q_fldA fo36_1 (by decide) rfl rfl) rfl ?_
      refine vl_vg rfl (q_load 0 Try.underlying3 rfl rfl rfl g1) rfl ?_
      refine vl_vg rfl (q_maxI rfl rfl) rfl ?_
      refine vl_vg rfl (q_lss_k Try.underlying3 rfl rfl) rfl ?_
      by_cases hs15 : max f t < 8
      · skip
        rw [show decide (max f t < 8) = true from decide_eq_true hs15]
        refine vl_v (q_pickT rfl rfl) rfl ?_
        refine vl_v (q_move rfl) rfl ?_
        refine vl_vg rfl (q_fldA fo36_3 (by decide) rfl rfl) rfl ?_
        refine vl_vg rfl (q_loadsAt 0 Try.underlying33 rfl rfl rfl sz33 g3 hh) rfl ?_
        refine vl_vg rfl (q_callV Try.func24 rfl rfl rfl (fun w1 H1 => hri w1)) rfl ?_
        refine vl_v (q_pickT rfl rfl) rfl ?_
        refine vl_v (q_move rfl) rfl ?_
        refine vl_vg rfl (q_fldA fo36_4 (by decide) rfl rfl) rfl ?_
        refine vl_vg rfl (q_load 0 Try.underlying34 rfl rfl rfl g4) rfl ?_
        refine vl_vg rfl (q_lenS Try.underlying34 rfl) rfl ?_
        refine vl_vg rfl (q_leq_n (q := 600) Try.underlying3 rfl rfl) rfl ?_
        refine vl_v (q_pickT rfl rfl) rfl ?_
        refine vl_v (q_assign rfl) rfl ?_
        refine vl_nil ?_
        refine (th_n ?_)
        refine VC_ret ?_
        refine ⟨_, res1 rfl rfl, ?_⟩
        exact congrArg (fun b => Ending.returned (Value.bool b)) (by rw [hre]; (first | rw [decide_eq_true hs8, decide_eq_true hs15] | rw [decide_eq_true hs8, decide_eq_false hs15] | rw [decide_eq_false hs8]) <;> rfl)
      · skip
        rw [show decide (max f t < 8) = false from decide_eq_false hs15]
        refine vl_v (q_pickT rfl rfl) rfl ?_
        refine vl_v (q_move rfl) rfl ?_
        refine vl_skip rfl rfl ?_
        refine vl_skip rfl rfl ?_
        refine vl_skip rfl rfl ?_
        refine vl_v (q_pickF rfl rfl) rfl ?_
        refine vl_v (q_move rfl) rfl ?_
        refine vl_skip rfl rfl ?_
        refine vl_skip rfl rfl ?_
        refine vl_skip rfl rfl ?_
        refine vl_skip rfl rfl ?_
        refine vl_v (q_pickF rfl rfl) rfl ?_
        refine vl_v (q_assign rfl) rfl ?_
        refine vl_nil ?_
        refine (th_n ?_)
        refine VC_ret ?_
        refine ⟨_, res1 rfl rfl, ?_⟩
        exact congrArg (fun b => Ending.returned (Value.bool b)) (by rw [hre]; (first | rw [decide_eq_true hs8, decide_eq_true hs15] | rw [decide_eq_true hs8, decide_eq_false hs15] | rw [decide_eq_false hs8]) <;> rfl)
    · skip
      rw [show decide (0 ≤ min f t) = false from decide_eq_false hs8]
      refine vl_v (q_move rfl) rfl ?_
      refine vl_skip rfl rfl ?_
      refine vl_skip rfl rfl ?_
      refine vl_skip rfl rfl ?_
      refine vl_skip rfl rfl ?_
      refine vl_skip rfl rfl ?_
      refine vl_skip rfl rfl ?_
      refine vl_v (q_pickF rfl rfl) rfl ?_
      refine vl_v (q_move rfl) rfl ?_
      refine vl_skip rfl rfl ?_
      refine vl_skip rfl rfl ?_
      refine vl_skip rfl rfl ?_
      refine vl_v (q_pickF rfl rfl) rfl ?_
      refine vl_v (q_move rfl) rfl ?_
      refine vl_skip rfl rfl ?_
      refine vl_skip rfl rfl ?_
      refine vl_skip rfl rfl ?_
      refine vl_skip rfl rfl ?_
      refine vl_v (q_pickF rfl rfl) rfl ?_
      refine vl_v (q_assign rfl) rfl ?_
      refine vl_nil ?_
      refine (th_n ?_)
      refine VC_ret ?_
      refine ⟨_, res1 rfl rfl, ?_⟩
      exact congrArg (fun b => Ending.returned (Value.bool b)) (by rw [hre]; (first | rw [decide_eq_true hs8, decide_eq_true hs15] | rw [decide_eq_true hs8, decide_eq_false hs15] | rw [decide_eq_false hs8]) <;> rfl)
end Go.Proofs.Ytadaihpeionniaa
end
section
namespace Go.Proofs.Ytadaihpeionniaa
open Go.RowKit Go.PBYtadaihpeionniaa
set_option linter.unusedVariables false
set_option linter.unusedSimpArgs false
set_option maxRecDepth 10000
theorem henv_bad (f t : Int) (cm pub : List UInt8) (p q : Int) (n cB : Nat) (B : Option Addr) (hc : cm.length = 32) (hp : pub.length = 32) (hr : rightEB f t p q n = false) (w : World) :
    Calls Try.prog 15 #[.agg (envC f t cm pub p q (.slice B n cB)).toArray] w fun e w' => e = .returned (.tuple #[.slice none 0 0, vN 1]) ∧ Kept [] w w' := by
  have hF := envC_f (f := f) (t := t) (p := p) (q := q) (sl := .slice B n cB) hc hp
  have hE := hrightE_calls f t cm pub p q n cB B hc hp
  rw [hr] at hE
  obtain ⟨c, hcc⟩ : ∃ c, envC f t cm pub p q (.slice B n cB) = c := ⟨_, rfl⟩
  rw [hcc] at hF hE ⊢
  have h0 := hF.len
  refine enter (n := 40) (R := fun e L => e = .returned (.tuple #[.slice none 0 0, vN 1])) [.agg c.toArray] Try.func15 rfl rfl rfl (St.refl w) ?_ (fun e w' L' h H => ⟨h, H.kept⟩)
  refine VC_seq ?_
  refine VC_region ?_
  refine l_boxA rfl rfl ?_
  intro b1
  refine vl_v (q_assign rfl) rfl ?_
  refine vl_v (q_assign rfl) rfl ?_
  refine vl_nil ?_
  refine (th_n ?_)
  refine VC_seq ?_
  refine VC_seq ?_
  refine VC_region ?_
  refine vl_v (q_loads 0 Try.underlying36 rfl rfl rfl sz36 h0) rfl ?_
  refine vl_v (q_callV Try.func20 rfl rfl rfl (fun w1 H1 => hE w1)) rfl ?_
  refine vl_v (q_not rfl) rfl ?_
  refine vl_nil ?_
  refine (th_n ?_)
  refine VC_yes (rfl) ?_
  refine VC_seq ?_
  refine VC_region ?_
  refine vl_v (q_assign rfl) rfl ?_
  refine vl_v (q_assign rfl) rfl ?_
  refine vl_nil ?_
  refine (th_n ?_)
  refine VC_ret ?_
  refine (th_r ?_)
  refine ⟨_, res2 rfl rfl rfl, ?_⟩
  exact rfl
theorem henv_ok (f t : Nat) (cm pub : List UInt8) (x y : Nat) (body : List UInt8) (n cB : Nat) (B : Option Addr) (hn : n = body.length) (hc : cm.length = 32) (hp : pub.length = 32) (hr : rightEB f t x y n = true) (w : World) (hB : SlAt w B (bys body)) :
    Calls Try.prog 15 #[.agg (envC f t cm pub x y (.slice B n cB)).toArray] w fun e w' => ∃ v, e = .returned (.tuple #[v, vN 0]) ∧ St [] w [.row 5 1 v (76 + n) (bys (envB f t cm pub x y body))] w' := by
  have hF := envC_f (f := (f : Int)) (t := (t : Int)) (p := (x : Int)) (q := (y : Int)) (sl := .slice B n cB) hc hp
  have hE := hrightE_calls f t cm pub x y n cB B hc hp
  rw [hr] at hE
  obtain ⟨c, hcc⟩ : ∃ c, envC f t cm pub x y (.slice B n cB) = c := ⟨_, rfl⟩
  rw [hcc] at hF hE ⊢
  obtain ⟨h0, g0, g1, g2, g3, g4⟩ := hF
  have hh := headC_length hp x y
  obtain ⟨h1, h2, h3⟩ := rightEB_iff.1 hr
  have h4 := rightB_iff.1 h2
  have hby := fun w => hbytes_ok pub x y hp (by omega) (by omega) w
  have l1 := headB_length hp x y
  have l2 := highB_length n 2
  have hb : envB f t cm pub x y body = [UInt8.ofNat f, UInt8.ofNat t] ++ cm ++ headB pub x y ++ highB n 2 ++ body := by rw [hn]; rfl
  rw [hb]
  obtain ⟨hB8, eh⟩ : ∃ u, headB pub x y = u := ⟨_, rfl⟩
  obtain ⟨u2, eu⟩ : ∃ u, highB n 2 = u := ⟨_, rfl⟩
  obtain ⟨a0, ea0⟩ : ∃ u, UInt8.ofNat f = u := ⟨_, rfl⟩
  obtain ⟨a1, ea1⟩ : ∃ u, UInt8.ofNat t = u := ⟨_, rfl⟩
  rw [eh] at l1 hby ⊢
  rw [eu] at l2 ⊢
  rw [ea0, ea1]
  have lb : (bys body).length = n := by simp [bys, hn]
  refine enter (n := 40) (R := rowTo w (76 + n) ([a0, a1] ++ cm ++ hB8 ++ u2 ++ body) (vN 0)) [.agg c.toArray] Try.func15 rfl rfl rfl (St.refl w) ?_ (fun e w' L' h H => by obtain ⟨v, h1, h2⟩ := h; exact ⟨v, h1, h2 w' H⟩)
  refine VC_seq ?_
  refine VC_region ?_
  refine l_boxA rfl rfl ?_
  intro b1
  refine vl_v (q_assign rfl) rfl ?_
  refine vl_v (q_assign rfl) rfl ?_
  refine vl_nil ?_
  refine (th_n ?_)
  refine VC_seq ?_
  refine VC_seq ?_
  refine VC_region ?_
  refine vl_v (q_loads 0 Try.underlying36 rfl rfl rfl sz36 h0) rfl ?_
  refine vl_v (q_callV Try.func20 rfl rfl rfl (fun w1 H1 => hE w1)) rfl ?_
  refine vl_v (q_not rfl) rfl ?_
  refine vl_nil ?_
  refine (th_n ?_)
  refine VC_no (rfl) ?_
  refine VC_skip ?_
  refine (th_n ?_)
  refine VC_seq ?_
  refine VC_drawM 9 [[], [0], [1], [], [3], [4], [2, 5], [], [7], [6, 8], [9, 0, 1, 2, 3, 4, 5, 6, 7, 8]] [[], [0], [0, 1], [], [3], [3, 4], [0, 1, 2, 3, 4, 5], [], [7], [0, 1, 2, 3, 4, 5, 6, 7, 8], [0, 1, 2, 3, 4, 5, 6, 7, 8, 9]] rfl (by kernel_rfl) ?_
  refine qm_v (fun xs hx => q_fldA fo36_0 (by decide) rfl rfl) ?_
  refine qm_v (fun xs hx => q_load 0 Try.underlying3 rfl rfl rfl g0) ?_
  refine qm_v (fun xs hx => q_as (v := vU8 a0) (q_conv_nu8 Try.underlying3 Try.underlying5 rfl) (by rw [ea0])) ?_
  refine qm_v (fun xs hx => q_fldA fo36_1 (by decide) rfl rfl) ?_
  refine qm_v (fun xs hx => q_load 0 Try.underlying3 rfl rfl rfl g1) ?_
  refine qm_v (fun xs hx => q_as (v := vU8 a1) (q_conv_nu8 Try.underlying3 Try.underlying5 rfl) (by rw [ea1])) ?_
  refine qm_a (fun xs hx => q_litA (cs := bys [a0, a1]) Try.underlying34 in5 (by decide) rfl rfl rfl rfl (one_all rfl) rfl) ?_
  refine qm_v (fun xs hx => q_fldA fo36_2 (by decide) rfl rfl) ?_
  refine qm_v (fun xs hx => q_slcA Try.underlying31 sz5 rfl rfl rfl rfl (.inl rfl) (by omega) (by omega) (by omega) (by omega) (by (try simp only [Nat.mul_one, Nat.zero_add, Nat.zero_mul, Nat.mul_zero, Nat.add_zero]) <;> rfl)) ?_
  refine qm_end ?_
  intro xs hx
  obtain ⟨⟨b16, e16⟩, _⟩ := hx
  simp only [e16]
  simp only [resT, nRow, nBlk, nRowT, tupAt_0, List.append_assoc, List.nil_append, List.append_nil, List.cons_append, List.singleton_append, e16]
  refine VL.keep (Sub.cons (s := 0) rfl (Sub.cons (s := 1) rfl (Sub.cons (s := 2) rfl (Sub.cons (s := 3) rfl (Sub.cons (s := 9) rfl (Sub.cons (s := 16) rfl (Sub.cons (s := 18) rfl (Sub.nil _)))))))) ?_
  refine l_append 0 rfl rfl rfl Try.underlying34 Try.underlying34 in5 rfl (by decide) (Reads.blkTake 1 2 32 rfl g2) (by simp only [zb, zu, zw, zi, n64s_length, za]; omega) (by with_reducible first | exact bys_one _ | exact u32s_one _ | exact u64s_one _ | exact i64s_one _ | exact n64s_one _ | assumption) (by omega) (by omega) rfl ?_
  intro A19 c19 hc19
  simp only [List.set_cons_zero, List.set_cons_succ, ← bys_append, ← u32s_append, ← u64s_append, ← i64s_append, List.nil_append, Nat.zero_add]
  refine vl_v (q_assign rfl) rfl ?_
  refine vl_nil ?_
  refine (qn_n (th_n ?_))
  refine VC_seq ?_
  refine VC_region ?_
  refine vl_v (q_fldA fo36_3 (by decide) rfl rfl) rfl ?_
  refine vl_v (q_loadsAt 1 Try.underlying33 rfl rfl rfl sz33 g3 hh) rfl ?_
  refine l_callT Try.func21 rfl rfl rfl (fun w1 H1 => hby w1) rfl ?_
  intro A23 c23 hc23 hm23
  refine vl_v (q_move rfl) rfl ?_
  refine vl_v (q_ext rfl rfl) rfl ?_
  refine vl_v (q_ext rfl rfl) rfl ?_
  refine vl_v (q_assign rfl) rfl ?_
  refine vl_v (q_assign rfl) rfl ?_
  refine vl_nil ?_
  refine (th_n ?_)
  refine VC_seq ?_
  refine VC_region ?_
  refine vl_v (q_move rfl) rfl ?_
  refine vl_v (q_move rfl) rfl ?_
  refine l_append 1 rfl rfl rfl Try.underlying34 Try.underlying34 in5 rfl (by decide) (Reads.row 0 rfl) (by simp only [zb, zu, zw, zi, n64s_length, za]; omega) (by with_reducible first | exact bys_one _ | exact u32s_one _ | exact u64s_one _ | exact i64s_one _ | exact n64s_one _ | assumption) (by omega) (by omega) rfl ?_
  intro A28 c28 hc28
  simp only [List.set_cons_zero, List.set_cons_succ, ← bys_append, ← u32s_append, ← u64s_append, ← i64s_append, List.nil_append, Nat.zero_add]
  refine vl_v (q_assign rfl) rfl ?_
  refine vl_nil ?_
  refine (th_n ?_)
  refine VC_seq ?_
  refine VC_region ?_
  refine vl_v (q_move rfl) rfl ?_
  refine vl_v (q_fldA fo36_4 (by decide) rfl rfl) rfl ?_
  refine vl_v (q_load 2 Try.underlying34 rfl rfl rfl g4) rfl ?_
  refine vl_v (q_lenS Try.underlying34 rfl) rfl ?_
  refine vl_v (q_conv_nw Try.underlying3 Try.underlying67 rfl (by omega)) rfl ?_
  refine l_callR Try.func22 rfl rfl rfl (fun w1 H1 => eu ▸ high_calls n 2 2 rfl (by omega) w1) rfl ?_
  intro A34 c34 hc34 hm34
  refine l_append 2 rfl rfl rfl Try.underlying34 Try.underlying34 in5 rfl (by decide) (Reads.row 0 rfl) (by simp only [zb, zu, zw, zi, n64s_length, za]; omega) (by with_reducible first | exact bys_one _ | exact u32s_one _ | exact u64s_one _ | exact i64s_one _ | exact n64s_one _ | assumption) (by omega) (by omega) rfl ?_
  intro A35 c35 hc35
  simp only [List.set_cons_zero, List.set_cons_succ, ← bys_append, ← u32s_append, ← u64s_append, ← i64s_append, List.nil_append, Nat.zero_add]
  refine vl_v (q_assign rfl) rfl ?_
  refine vl_nil ?_
  refine (th_n ?_)
  refine VC_seq ?_
  refine VC_region ?_
  refine vl_v (q_move rfl) rfl ?_
  refine vl_v (q_fldA fo36_4 (by decide) rfl rfl) rfl ?_
  refine vl_v (q_load 3 Try.underlying34 rfl rfl rfl g4) rfl ?_
  refine l_append 2 rfl rfl rfl Try.underlying34 Try.underlying34 in5 rfl (by decide) (Reads.old hB) (by omega) (by with_reducible first | exact bys_one _ | exact u32s_one _ | exact u64s_one _ | exact i64s_one _ | exact n64s_one _ | assumption) (by omega) (by omega) rfl ?_
  intro A39 c39 hc39
  simp only [List.set_cons_zero, List.set_cons_succ, ← bys_append, ← u32s_append, ← u64s_append, ← i64s_append, List.nil_append, Nat.zero_add]
  refine vl_v (q_assign rfl) rfl ?_
  refine vl_v (q_assign rfl) rfl ?_
  refine vl_nil ?_
  refine (th_n ?_)
  refine VC_ret ?_
  refine ⟨_, res2 rfl rfl rfl, ?_⟩
  exact ⟨_, rfl, fun w' H => by simpa [bys_append, List.append_assoc] using H.pick (ks := [2]) (by decide) rfl⟩
end Go.Proofs.Ytadaihpeionniaa
end
section
namespace Go.PBYtadaihpeionniaa
open Go Go.RowKit
set_option linter.unusedVariables false
set_option linter.unusedSimpArgs false
end Go.PBYtadaihpeionniaa
end
section
namespace Go.PBYtadaihpeionniaa
open Go Go.RowKit
set_option linter.unusedVariables false
set_option linter.unusedSimpArgs false
end Go.PBYtadaihpeionniaa
end
section
namespace Go.PBYtadaihpeionniaa
open Go Go.RowKit
set_option linter.unusedVariables false
set_option linter.unusedSimpArgs false
theorem envC_one {f t : Int} {cm pub : List UInt8} {p q : Int} {sl : Value} (hs : sl.oneCell' = true) : ∀ u ∈ envC f t cm pub p q sl, u.oneCell' = true := by
  intro u hu
  unfold envC at hu
  rcases List.mem_append.1 hu with h | h
  · exact one_all rfl u h
  rcases List.mem_append.1 h with h | h
  · exact bys_one _ u h
  rcases List.mem_append.1 h with h | h
  · exact app_one (bys_one _) (one_all rfl) u h
  · rw [List.mem_singleton] at h; exact h ▸ hs
end Go.PBYtadaihpeionniaa
end
section
namespace Go.PBYtadaihpeionniaa
open Go Go.RowKit
set_option linter.unusedSimpArgs false
set_option linter.unusedVariables false
/-- bytes of a slice that may grow -/
abbrev bodyR (T : TypeId) (b : List UInt8) (x : Option Addr × Nat) : Res := .row T 1 (.slice x.1 b.length x.2) b.length (bys b)
section
variable {P : Program} {n : Nat} {S : List Nat} {w0 : World} {Q : QE} {env : Env} {L : List Res} {ops : Array Oper} {rest : List Oper} {d : Tmp} {ty : TypeId} {pos : String} {af : Array Edge}
/-- a call that tells something new, one of a family -/
theorem l_callG {ι : Type} {V : ι → Value} {M : ι → List Res} {f : FuncId} {fn : Func} {xs : Array Operand} {ats : Array TypeId} {args : List Value} (hf : P.funcs[f]? = some fn) (hb : fn.body.isSome = true) (hn : (fn.name == "runtime.NumGoroutine") = false) (hx : evalsE env xs.toList = some args)
    (hc : ∀ w, St S w0 L w → Calls P f args.toArray w (fun e w' => ∃ x, e = .returned (V x) ∧ St [] w (M x) w')) (hd : dstOk n (some d) = true) (h : ∀ x, VL P n S w0 ops Q rest ((d, V x) :: env) (M x ++ L)) :
    VL P n S w0 ops Q ({ dst := some d, op := .call { callee := .value (.func f), args := xs, argTypes := ats }, type := ty, pos, after := af, guard := none } :: rest) env L :=
  l_call (F := fun u N => ∃ x, u = V x ∧ N = M x ++ L) hf hb hn hx (fun w H => (hc w H).mono fun e w' ⟨x, h1, h2⟩ => ⟨V x, _, h1, ⟨x, rfl, rfl⟩, (H.join h2).perm List.perm_append_comm⟩) hd (by rintro u N ⟨x, rfl, rfl⟩; exact h x)
end
end Go.PBYtadaihpeionniaa
end
section
namespace Go.Proofs.Ytadaihpeionniaa
open Go.RowKit Go.PBYtadaihpeionniaa
set_option linter.unusedVariables false
set_option linter.unusedSimpArgs false
set_option maxRecDepth 10000
end Go.Proofs.Ytadaihpeionniaa
end
section
namespace Go.PBYtadaihpeionniaa
open Go Go.RowKit Go.ChangeShapes Go.WideShapes Go.ChangeAt
set_option linter.unusedVariables false
set_option linter.unusedSimpArgs false
/-! ### keys that hold a bool -/
end Go.PBYtadaihpeionniaa
end
section
namespace Go.PBYtadaihpeionniaa
open Go Go.RowKit Go.ChangeShapes Go.WideShapes Go.ChangeAt
set_option linter.unusedVariables false
set_option linter.unusedSimpArgs false
structure EnvD where
  f : Int
  t : Int
  cm : List UInt8
  pub : List UInt8
  p : Int
  q : Int
  body : List UInt8
end Go.PBYtadaihpeionniaa
end
section
namespace Go.Proofs.Ytadaihpeionniaa
open Go.RowKit Go.PBYtadaihpeionniaa
set_option linter.unusedVariables false
set_option linter.unusedSimpArgs false
set_option maxRecDepth 100000
theorem wf_small (x : Nat) (h : x < 4294967296) : (Lit.int .i64 (x : Int)).wf = true := by
  simp only [Lit.wf, Bool.and_eq_true, decide_eq_true_eq]
  have h2 : IntKind.i64.min = -9223372036854775808 := rfl
  have h3 : IntKind.i64.max = 9223372036854775807 := rfl
  rw [h2, h3]
  omega
end Go.Proofs.Ytadaihpeionniaa
end
section
namespace Go.PBYtadaihpeionniaa
open Go Go.RowKit
set_option linter.unusedVariables false
abbrev envOf (X : EnvD) (x : Option Addr × Nat) : List Value := envC X.f X.t X.cm X.pub X.p X.q (.slice x.1 X.body.length x.2)
end Go.PBYtadaihpeionniaa
namespace Go.Proofs.Ytadaihpeionniaa
open Go.RowKit Go.PBYtadaihpeionniaa
set_option linter.unusedVariables false
set_option linter.unusedSimpArgs false
set_option maxRecDepth 10000
end Go.Proofs.Ytadaihpeionniaa
end
section
namespace Go.Proofs.Ytadaihpeionniaa
open Go.RowKit Go.PBYtadaihpeionniaa
set_option linter.unusedVariables false
set_option linter.unusedSimpArgs false
set_option maxRecDepth 10000
end Go.Proofs.Ytadaihpeionniaa
end
section
namespace Go.PBYtadaihpeionniaa
open Go Go.RowKit
set_option linter.unusedVariables false
set_option linter.unusedSimpArgs false
def enR (X : EnvD) : Bool := rightEB X.f X.t X.p X.q X.body.length
/-- an envelope's bytes, none if it may not be -/
def enB (X : EnvD) : List UInt8 := if enR X then envB X.f.toNat X.t.toNat X.cm X.pub X.p.toNat X.q.toNat X.body else []
def enK (X : EnvD) : Nat := if enR X then 0 else 1
theorem enR_nat {X : EnvD} (h : enR X = true) : ∃ f t p q : Nat, X.f = (f : Int) ∧ X.t = (t : Int) ∧ X.p = (p : Int) ∧ X.q = (q : Int) := by
  obtain ⟨h1, h2, h3⟩ := rightEB_iff.1 h
  have h4 := rightB_iff.1 h2
  exact ⟨X.f.toNat, X.t.toNat, X.p.toNat, X.q.toNat, by omega, by omega, by omega, by omega⟩
end Go.PBYtadaihpeionniaa
end
section
namespace Go.Proofs.Ytadaihpeionniaa
open Go.RowKit Go.PBYtadaihpeionniaa
set_option linter.unusedVariables false
set_option linter.unusedSimpArgs false
set_option maxRecDepth 100000
def enCalls (F : FuncId) (X : EnvD) (A : Option Addr) (c : Nat) (w : World) : Prop :=
  Calls Try.prog F #[.agg (envOf X (A, c)).toArray] w fun e w' => ∃ x : Option Addr × Nat, e = .returned (.tuple #[.slice x.1 (enB X).length x.2, vN (enK X)]) ∧ St [] w [bodyR 5 (enB X) x] w'
theorem enCalls_of {F : FuncId} {X : EnvD} {A : Option Addr} {c : Nat} {w : World} (hc : X.cm.length = 32) (hp : X.pub.length = 32)
    (hbad : rightEB X.f X.t X.p X.q X.body.length = false → Calls Try.prog F #[.agg (envC X.f X.t X.cm X.pub X.p X.q (.slice A X.body.length c)).toArray] w fun e w' => e = .returned (.tuple #[.slice none 0 0, vN 1]) ∧ Kept [] w w')
    (hok : ∀ (f t x y : Nat), X.f = (f : Int) → X.t = (t : Int) → X.p = (x : Int) → X.q = (y : Int) → rightEB f t x y X.body.length = true → Calls Try.prog F #[.agg (envC f t X.cm X.pub x y (.slice A X.body.length c)).toArray] w fun e w' => ∃ v, e = .returned (.tuple #[v, vN 0]) ∧ St [] w [.row 5 1 v (76 + X.body.length) (bys (envB f t X.cm X.pub x y X.body))] w') : enCalls F X A c w := by
  cases h : enR X with
  | false =>
    have e1 : enB X = [] := if_neg (by rw [h]; decide)
    have e2 : enK X = 1 := if_neg (by rw [h]; decide)
    unfold enCalls
    rw [e1, e2]
    exact (hbad h).mono fun e w' ⟨h1, h2⟩ => ⟨(none, 0), h1, ((St.refl w).keep h2).addNil _ _⟩
  | true =>
    obtain ⟨f, t, p, q, g1, g2, g3, g4⟩ := enR_nat h
    have e1 : enB X = envB f t X.cm X.pub p q X.body := by unfold enB; rw [if_pos h, g1, g2, g3, g4]; simp only [Int.toNat_natCast]
    have e2 : enK X = 0 := if_pos h
    have hL := envB_length (f := f) (t := t) (x := p) (y := q) (body := X.body) hc hp
    have h0 := h
    unfold enR at h0
    rw [g1, g2, g3, g4] at h0
    have hk := hok f t p q g1 g2 g3 g4 h0
    rw [← hL] at hk
    unfold enCalls
    rw [e1, e2]
    unfold envOf
    rw [g1, g2, g3, g4]
    refine hk.mono ?_
    rintro e w' ⟨v, rfl, H⟩
    obtain ⟨B, k, rfl, _, _, _⟩ := row_sl H 0 rfl
    exact ⟨(B, k), rfl, H⟩
theorem henv_calls (X : EnvD) (A : Option Addr) (c : Nat) (hc : X.cm.length = 32) (hp : X.pub.length = 32) (w : World) (hA : SlAt w A (bys X.body)) : enCalls 15 X A c w :=
  enCalls_of hc hp (fun h => henv_bad _ _ _ _ _ _ _ _ _ hc hp h w) (fun f t x y _ _ _ _ h => henv_ok f t X.cm X.pub x y X.body _ _ _ rfl hc hp h w hA)
end Go.Proofs.Ytadaihpeionniaa
end
section
namespace Go.PBYtadaihpeionniaa
open Go Go.RowKit
set_option linter.unusedVariables false
set_option linter.unusedSimpArgs false
/-- the blocks of resources -/
def ats (X : List Res) : List Nat := X.filterMap Res.at
/-- what is owned among other things, alone -/
theorem St.own {S : List Nat} {w0 w : World} {X R : List Res} (H : St S w0 (X ++ R) w) : St (ats X) w X w :=
  ⟨Kept.refl _ _, fun r hr => H.ok r (List.mem_append_left _ hr), fun r hr b hb => .inr (List.mem_filterMap.2 ⟨r, hr, hb⟩), H.apart.sublist (List.sublist_append_left _ _)⟩
/-- and back among the others -/
theorem St.swap {S : List Nat} {w0 w w' : World} {X R X' : List Res} (H : St S w0 (X ++ R) w) (H' : St (ats X) w X' w') : St S w0 (X' ++ R) w' := by
  have hT : ∀ b, b ∈ ats X → ∃ r ∈ X, r.at = some b := fun b hb => by
    obtain ⟨r, hr, h⟩ := List.mem_filterMap.1 hb
    exact ⟨r, hr, h⟩
  have hX : ∀ r ∈ X, r ∈ X ++ R := fun r hr => List.mem_append_left _ hr
  have hR : ∀ r ∈ R, r ∈ X ++ R := fun r hr => List.mem_append_right _ hr
  have hap := List.pairwise_append.1 H.apart
  have hstay : ∀ s ∈ R, s.ok w' := fun s hs => Res.of_eq (H.ok s (hR s hs)) fun b hb => H'.kept.block b (Res.lt (H.ok s (hR s hs)) hb) fun hm => by
    obtain ⟨r, hr, h⟩ := hT b hm
    exact hap.2.2 r hr s hs b h hb
  refine ⟨⟨H'.kept.os.trans H.kept.os, H'.kept.tape.trans H.kept.tape, H'.kept.output.trans H.kept.output, Nat.le_trans H.kept.size H'.kept.size, fun k hk hn => ?_⟩, ?_, ?_, ?_⟩
  · rw [H'.kept.block k (Nat.lt_of_lt_of_le hk H.kept.size) fun hm => ?_]
    · exact H.kept.block k hk hn
    · obtain ⟨r, hr, h⟩ := hT k hm
      rcases H.new r (hX r hr) k h with h | h
      · omega
      · exact hn h
  · intro s hs
    rcases List.mem_append.1 hs with h | h
    · exact H'.ok s h
    · exact hstay s h
  · intro s hs b hb
    rcases List.mem_append.1 hs with h | h
    · rcases H'.new s h b hb with h' | h'
      · exact .inl (Nat.le_trans H.kept.size h')
      · obtain ⟨r, hr, h2⟩ := hT b h'
        exact H.new r (hX r hr) b h2
    · exact H.new s (hR s h) b hb
  · refine List.pairwise_append.2 ⟨H'.apart, hap.2.1, ?_⟩
    intro s hs t ht b hb htb
    rcases H'.new s hs b hb with h' | h'
    · have := Res.lt (H.ok t (hR t ht)) htb
      omega
    · obtain ⟨r, hr, h2⟩ := hT b h'
      exact hap.2.2 r hr t ht b h2 htb
section
variable {P : Program} {n : Nat} {S : List Nat} {w0 : World} {Q : QE} {env : Env} {X F : List Res} {c : Code}
/-- what lay there before any of it -/
theorem Reads.own {w w0 : World} {L : List Res} {A : Option Addr} {vs : List Value} (hA : SlAt w0 A vs) (H : St [] w0 (X ++ F) w) : Reads (ats X) w L A vs := by
  have h1 : SlAt w A vs := H.sl0 hA
  intro w' H' j v hj
  obtain ⟨a, e, hc⟩ := h1 j v hj
  refine ⟨a, e, H'.kept.cell hc ?_⟩
  intro hm
  obtain ⟨r, hr, hb⟩ := List.mem_filterMap.1 hm
  obtain ⟨a0, e0, hc0⟩ := hA j v hj
  rw [e] at e0
  cases e0
  have hl := World.block_lt_of_cell? w0 _ hc0
  rcases H.new r (List.mem_append_left _ hr) _ hb with h | h
  · omega
  · simp at h
/-- what of the rest is read -/
theorem Reads.rest {w w0 : World} {L : List Res} {A : Option Addr} {vs : List Value} (r : Res) (hr : r ∈ F) (hA : ∀ w', r.ok w' → SlAt w' A vs) (H : St S w0 (X ++ F) w) : Reads (ats X) w L A vs := by
  intro w' H'
  refine hA w' (Res.of_eq (H.ok r (List.mem_append_right _ hr)) fun b hb => H'.kept.block b (Res.lt (H.ok r (List.mem_append_right _ hr)) hb) fun hm => ?_)
  obtain ⟨x, hx, h⟩ := List.mem_filterMap.1 hm
  exact (List.pairwise_append.1 H.apart).2.2 x hx r hr b h hb
end
section
variable {P : Program} {n : Nat} {S : List Nat} {w0 : World} {env : Env} {L : List Res}
variable {d : Tmp} {ty : TypeId} {pos : String} {af : Array Edge} {g : Option (Nat × Bool)}
/-- a field, by an address that is read -/
theorem q_fldRd {s : TypeId} {x : Operand} {f off sz m r : Nat} {A : Option Addr} (hf : fieldOff P s f = some (off, sz)) (hz : sz ≠ 0) (hx : evalE env x = some (ptrOf A m)) (hr : m + off = r) :
    QT P n S w0 { dst := some d, op := .fieldAddr s x f, type := ty, pos, after := af, guard := g } env L (.val (ptrOf A r)) := by
  have h := q_fldAd (n := n) (S := S) (w0 := w0) (L := L) (d := d) (ty := ty) (pos := pos) (af := af) (g := g) hf hz hx
  rw [Addr.add_add' _ _ _ (.inr (.inr trivial)), hr] at h
  exact h
end
end Go.PBYtadaihpeionniaa
end
