/- Words and laws that the proofs of this seat share, part 2 of 10. No condition. -/
import Derived.Test.YtfpdnpppcoomnaaGreatQ40ta
set_option linter.unusedVariables false
set_option linter.unusedSimpArgs false
set_option linter.defProp false
set_option maxRecDepth 100000
set_option maxHeartbeats 16000000
namespace Go.PBYtfpdnpppcoomnaaGreat
open Go Go.RowKit
abbrev vU8 (x:UInt8):Value:=.int .u8 (x.toNat:Int)
abbrev vU32 (x:UInt32):Value:=.int .u32 (x.toNat:Int)
abbrev vU64 (x:UInt64):Value:=.int .u64 (x.toNat:Int)
abbrev vI (x:Int):Value:=.int .i64 x
abbrev vN (x:Nat):Value:=.int .i64 (x:Int)
abbrev vP (b o:Nat):Value:=.pointer (some ⟨b,o,none⟩)
theorem wi {x:Int} (h1 : -9223372036854775808≤x) (h2:x≤9223372036854775807):IntKind.i64.wrap x=x:=by rw [IntKind.wrap_i64];omega
theorem wrap_add_u8 (x y:UInt8):IntKind.u8.wrap ((x.toNat:Int)+(y.toNat:Int))=((x+y).toNat:Int):=by
 have h:(x+y).toNat=(x.toNat+y.toNat) % 2^8:=UInt8.toNat_add x y
 rw [h]
 simp only [IntKind.wrap,IntKind.bits,IntKind.signed]
 simp
theorem wrap_self_u8 (x:UInt8):IntKind.u8.wrap (x.toNat:Int)=(x.toNat:Int):=by
 have h1:=UInt8.toNat_lt x
 simp only [IntKind.wrap,IntKind.bits,IntKind.signed]
 simp only [Bool.false_and,Bool.false_eq_true,if_false]
 omega
theorem bv_u8 (x:UInt8):BitVec.ofInt 8 (x.toNat:Int)=x.toBitVec:=by
 apply BitVec.eq_of_toNat_eq
 have h1:=UInt8.toNat_lt x
 simp only [BitVec.toNat_ofInt]
 show _=x.toNat
 omega
theorem wrap_add_u32 (x y:UInt32):IntKind.u32.wrap ((x.toNat:Int)+(y.toNat:Int))=((x+y).toNat:Int):=by
 have h:(x+y).toNat=(x.toNat+y.toNat) % 2^32:=UInt32.toNat_add x y
 rw [h]
 simp only [IntKind.wrap,IntKind.bits,IntKind.signed]
 simp
theorem wrap_self_u32 (x:UInt32):IntKind.u32.wrap (x.toNat:Int)=(x.toNat:Int):=by
 have h1:=UInt32.toNat_lt x
 simp only [IntKind.wrap,IntKind.bits,IntKind.signed]
 simp only [Bool.false_and,Bool.false_eq_true,if_false]
 omega
theorem bv_u32 (x:UInt32):BitVec.ofInt 32 (x.toNat:Int)=x.toBitVec:=by
 apply BitVec.eq_of_toNat_eq
 have h1:=UInt32.toNat_lt x
 simp only [BitVec.toNat_ofInt]
 show _=x.toNat
 omega
theorem wrap_add_u64 (x y:UInt64):IntKind.u64.wrap ((x.toNat:Int)+(y.toNat:Int))=((x+y).toNat:Int):=by
 have h:(x+y).toNat=(x.toNat+y.toNat) % 2^64:=UInt64.toNat_add x y
 rw [h]
 simp only [IntKind.wrap,IntKind.bits,IntKind.signed]
 simp
section
variable {P : Program} {n : Nat} {S : List Nat} {w0 : World} {env : Env} {L : List Res} {Q : QE} {ops : Array Oper} {rest : List Oper}
variable {d : Tmp} {ty : TypeId} {pos : String} {af : Array Edge} {g : Option (Nat × Bool)} {o : Oper}
theorem q_of {f:Value} (hd:o.dst=some d) (h:∀ a w,Models n env a→St S w0 L w→(execOp a.eval o).run P w=.ok (.value f) w):QT P n S w0 o env L (.val f):=by
 refine ⟨fun a w hm H=>?_⟩
 unfold Oper.wp
 rw [h a w hm H]
 show ∃ v,a.put o.dst f=a.put o.dst v∧(o.dst=none→v=undef)∧(Sp.val f).fact v∧St [] w ((Sp.val f).res v) w
 exact ⟨f,rfl,fun hn=>absurd (hd.symm.trans hn) (fun h=>by cases h),rfl,St.refl w⟩
theorem vl_nil (h:Q .normal env L):VL P n S w0 ops Q [] env L:=⟨fun a w hm H=>⟨env,L,hm,H,h⟩⟩
theorem vl_q {s:Sp} (hq:QT P n S w0 o env L s) (hg:Met ops env o.guard) (hd:dstOk n o.dst=true) (h:∀ v,s.fact v→VL P n S w0 ops Q rest (ext o.dst v env) (s.res v++L)):VL P n S w0 ops Q (o::rest) env L:=by
 refine ⟨fun a w hm H=>?_⟩
 unfold wpList
 rw [if_pos (hg.wanted hm)]
 left
 have hw:=hq.run a w hm H
 unfold Oper.wp at hw ⊢
 refine upon_imp hw ?_ ?_
 ·rintro v w' ⟨u,h1,h2,h3,h4⟩
  rw [h1]
  exact (h u h3).run _ w' (hm.put hd u) ((H.join h4).perm List.perm_append_comm)
 ·rintro e w' ⟨u,h1,_⟩
  have h5:=congrArg Act.defers h1
  rw [put_defs,put_defs] at h5
  have h6:=congrArg List.length h5
  simp at h6
theorem vl_v {op:Op} {f:Value} (hq:QT P n S w0 { dst:=some d,op,type:=ty,pos,after:=af,guard:=none } env L (.val f)) (hd:dstOk n (some d)=true) (h:VL P n S w0 ops Q rest ((d,f)::env) L) :
 VL P n S w0 ops Q ({ dst:=some d,op,type:=ty,pos,after:=af,guard:=none }::rest) env L :=
 vl_q hq trivial hd (by rintro v rfl;exact h)
theorem vl_vg {op:Op} {f:Value} (hg:Met ops env g) (hq:QT P n S w0 { dst:=some d,op,type:=ty,pos,after:=af,guard:=g } env L (.val f)) (hd:dstOk n (some d)=true) (h:VL P n S w0 ops Q rest ((d,f)::env) L) :
 VL P n S w0 ops Q ({ dst:=some d,op,type:=ty,pos,after:=af,guard:=g }::rest) env L :=
 vl_q hq hg hd (by rintro v rfl;exact h)
theorem vl_skip (hu:Unmet ops env o.guard) (hd:dstOk n o.dst=true) (h:VL P n S w0 ops Q rest (ext o.dst undef env) L):VL P n S w0 ops Q (o::rest) env L:=by
 refine ⟨fun a w hm H=>?_⟩
 unfold wpList
 rw [hu.wanted hm]
 simp only [Bool.false_eq_true,if_false]
 exact h.run _ w (hm.put hd undef) H
theorem VL.sub {l:List Oper} {env':Env} {L':List Res} (h:VL P n S w0 ops Q l env' L') (he:Sub env env') (hL:∀ w,St S w0 L w→St S w0 L' w):VL P n S w0 ops Q l env L :=
 ⟨fun a w hm H=>h.run a w (hm.sub he) (hL w H)⟩
theorem VC_region {id:Nat} {l:List Oper} (h:VL P n S w0 l.toArray Q l env L):VC P n S w0 (.region id l.toArray false) Q env L :=
 ⟨fun a w hm H=>Go.wp_region_lit (h.run a w hm H)⟩
theorem q_move {x:Operand} {v:Value} (hx:evalE env x=some v):QT P n S w0 { dst:=some d,op:=.move x,type:=ty,pos,after:=af,guard:=g } env L (.val v) :=
 q_of rfl fun a w hm H=>by simp [execOp,hm.eval hx]
theorem q_assign {x:Operand} {v:Value} (hx:evalE env x=some v):QT P n S w0 { dst:=some d,op:=.assign x,type:=ty,pos,after:=af,guard:=g } env L (.val v) :=
 q_of rfl fun a w hm H=>by simp [execOp,hm.eval hx]
theorem q_pickT {c x y:Operand} {v:Value} (hc:evalE env c=some (.bool true)) (hx:evalE env x=some v):QT P n S w0 { dst:=some d,op:=.pick c x y,type:=ty,pos,after:=af,guard:=g } env L (.val v) :=
 q_of rfl fun a w hm H=>by simp [execOp,hm.eval hc,hm.eval hx,asBool]
theorem q_pickF {c x y:Operand} {v:Value} (hc:evalE env c=some (.bool false)) (hy:evalE env y=some v):QT P n S w0 { dst:=some d,op:=.pick c x y,type:=ty,pos,after:=af,guard:=g } env L (.val v) :=
 q_of rfl fun a w hm H=>by simp [execOp,hm.eval hc,hm.eval hy,asBool]
theorem q_bin {op:BinOp} {T T':TypeId} {x y:Operand} {vx vy f:Value} (hx:evalE env x=some vx) (hy:evalE env y=some vy) (h:∀ w,(do eqGuard op T x y vx vy;binOp op T vx vy:Sem Value).run P w=.ok f w) :
 QT P n S w0 { dst:=some d,op:=.binOp op T x y T',type:=ty,pos,after:=af,guard:=g } env L (.val f) :=
 q_of rfl fun a w hm H=>by
  have:=h w
  simp only [Sem.run_bind] at this
  simp only [execOp,hm.eval hx,hm.eval hy,Sem.run_bind,bind_assoc]
  cases h1:(eqGuard op T x y vx vy).run P w with
  | halt e w'=>rw [h1] at this;simp at this
  | ok u w' =>
   rw [h1] at this
   simp only [Result.andThen_ok] at this ⊢
   rw [this]
   simp
theorem q_add_k {T T':TypeId} {x y:Operand} {k:IntKind} {p q r:Int} (hx:evalE env x=some (.int k p)) (hy:evalE env y=some (.int k q)) (hr:k.wrap (p+q)=r) :
 QT P n S w0 { dst:=some d,op:=.binOp .add T x y T',type:=ty,pos,after:=af,guard:=g } env L (.val (.int k r)) :=
 q_bin hx hy fun w=>by simp [eqGuard,binOp,Op.intArith,hr]
theorem q_add_i {T T':TypeId} {x y:Operand} {p q:Int} (hx:evalE env x=some (.int .i64 p)) (hy:evalE env y=some (.int .i64 q)) (h1 : -9223372036854775808≤p+q) (h2:p+q≤9223372036854775807) :
 QT P n S w0 { dst:=some d,op:=.binOp .add T x y T',type:=ty,pos,after:=af,guard:=g } env L (.val (.int .i64 (p+q))) :=
 q_add_k hx hy (by rw [wi h1 h2])
theorem q_add_n {T T':TypeId} {x y:Operand} {p q:Nat} (hx:evalE env x=some (.int .i64 (p:Int))) (hy:evalE env y=some (.int .i64 (q:Int))) (h2:p+q≤9223372036854775807) :
 QT P n S w0 { dst:=some d,op:=.binOp .add T x y T',type:=ty,pos,after:=af,guard:=g } env L (.val (.int .i64 ((p+q:Nat):Int))) :=
 q_add_k hx hy (by rw [← Int.natCast_add,wi (by omega) (by omega)])
theorem q_add_u8 {T T':TypeId} {x y:Operand} {p q:UInt8} (hx:evalE env x=some (vU8 p)) (hy:evalE env y=some (vU8 q)) :
 QT P n S w0 { dst:=some d,op:=.binOp .add T x y T',type:=ty,pos,after:=af,guard:=g } env L (.val (vU8 (p+q))) :=
 q_add_k hx hy (wrap_add_u8 p q)
theorem q_add_u32 {T T':TypeId} {x y:Operand} {p q:UInt32} (hx:evalE env x=some (vU32 p)) (hy:evalE env y=some (vU32 q)) :
 QT P n S w0 { dst:=some d,op:=.binOp .add T x y T',type:=ty,pos,after:=af,guard:=g } env L (.val (vU32 (p+q))) :=
 q_add_k hx hy (wrap_add_u32 p q)
theorem q_add_u64 {T T':TypeId} {x y:Operand} {p q:UInt64} (hx:evalE env x=some (vU64 p)) (hy:evalE env y=some (vU64 q)) :
 QT P n S w0 { dst:=some d,op:=.binOp .add T x y T',type:=ty,pos,after:=af,guard:=g } env L (.val (vU64 (p+q))) :=
 q_add_k hx hy (wrap_add_u64 p q)
theorem q_sub_k {T T':TypeId} {x y:Operand} {k:IntKind} {p q r:Int} (hx:evalE env x=some (.int k p)) (hy:evalE env y=some (.int k q)) (hr:k.wrap (p-q)=r) :
 QT P n S w0 { dst:=some d,op:=.binOp .sub T x y T',type:=ty,pos,after:=af,guard:=g } env L (.val (.int k r)) :=
 q_bin hx hy fun w=>by simp [eqGuard,binOp,Op.intArith,hr]
theorem q_sub_i {T T':TypeId} {x y:Operand} {p q:Int} (hx:evalE env x=some (.int .i64 p)) (hy:evalE env y=some (.int .i64 q)) (h1 : -9223372036854775808≤p-q) (h2:p-q≤9223372036854775807) :
 QT P n S w0 { dst:=some d,op:=.binOp .sub T x y T',type:=ty,pos,after:=af,guard:=g } env L (.val (.int .i64 (p-q))) :=
 q_sub_k hx hy (by rw [wi h1 h2])
theorem q_sub_n {T T':TypeId} {x y:Operand} {p q:Nat} (hx:evalE env x=some (.int .i64 (p:Int))) (hy:evalE env y=some (.int .i64 (q:Int))) (h1:q≤p) (h2:p≤9223372036854775807) :
 QT P n S w0 { dst:=some d,op:=.binOp .sub T x y T',type:=ty,pos,after:=af,guard:=g } env L (.val (.int .i64 ((p-q:Nat):Int))) :=
 q_sub_k hx hy (by rw [Int.ofNat_sub h1,wi (by omega) (by omega)])
theorem q_mul_k {T T':TypeId} {x y:Operand} {k:IntKind} {p q r:Int} (hx:evalE env x=some (.int k p)) (hy:evalE env y=some (.int k q)) (hr:k.wrap (p*q)=r) :
 QT P n S w0 { dst:=some d,op:=.binOp .mul T x y T',type:=ty,pos,after:=af,guard:=g } env L (.val (.int k r)) :=
 q_bin hx hy fun w=>by simp [eqGuard,binOp,Op.intArith,hr]
theorem q_mul_i {T T':TypeId} {x y:Operand} {p q:Int} (hx:evalE env x=some (.int .i64 p)) (hy:evalE env y=some (.int .i64 q)) (h1 : -9223372036854775808≤p*q) (h2:p*q≤9223372036854775807) :
 QT P n S w0 { dst:=some d,op:=.binOp .mul T x y T',type:=ty,pos,after:=af,guard:=g } env L (.val (.int .i64 (p*q))) :=
 q_mul_k hx hy (by rw [wi h1 h2])
theorem q_mul_n {T T':TypeId} {x y:Operand} {p q:Nat} (hx:evalE env x=some (.int .i64 (p:Int))) (hy:evalE env y=some (.int .i64 (q:Int))) (h2:p*q≤9223372036854775807) :
 QT P n S w0 { dst:=some d,op:=.binOp .mul T x y T',type:=ty,pos,after:=af,guard:=g } env L (.val (.int .i64 ((p*q:Nat):Int))) :=
 q_mul_k hx hy (by rw [← Int.natCast_mul,wi (by omega) (by omega)])
theorem q_and_k {T T':TypeId} {x y:Operand} {k:IntKind} {p q r:Int} (hx:evalE env x=some (.int k p)) (hy:evalE env y=some (.int k q)) (hr:k.wrap ((BitVec.ofInt k.bits p &&& BitVec.ofInt k.bits q).toNat:Int)=r) :
 QT P n S w0 { dst:=some d,op:=.binOp .and T x y T',type:=ty,pos,after:=af,guard:=g } env L (.val (.int k r)) :=
 q_bin hx hy fun w=>by simpa [eqGuard,binOp,Op.intBits] using hr
theorem q_and_u8 {T T':TypeId} {x y:Operand} {p q:UInt8} (hx:evalE env x=some (vU8 p)) (hy:evalE env y=some (vU8 q)) :
 QT P n S w0 { dst:=some d,op:=.binOp .and T x y T',type:=ty,pos,after:=af,guard:=g } env L (.val (vU8 (p &&& q))) :=
 q_and_k hx hy (by
  have h:(BitVec.ofInt IntKind.u8.bits (p.toNat:Int) &&& BitVec.ofInt IntKind.u8.bits (q.toNat:Int)).toNat=(p &&& q).toNat:=by
   show (BitVec.ofInt 8 (p.toNat:Int) &&& BitVec.ofInt 8 (q.toNat:Int)).toNat=_
   rw [bv_u8,bv_u8]
   rfl
  rw [h,wrap_self_u8])
theorem q_or_k {T T':TypeId} {x y:Operand} {k:IntKind} {p q r:Int} (hx:evalE env x=some (.int k p)) (hy:evalE env y=some (.int k q)) (hr:k.wrap ((BitVec.ofInt k.bits p ||| BitVec.ofInt k.bits q).toNat:Int)=r) :
 QT P n S w0 { dst:=some d,op:=.binOp .or T x y T',type:=ty,pos,after:=af,guard:=g } env L (.val (.int k r)) :=
 q_bin hx hy fun w=>by simpa [eqGuard,binOp,Op.intBits] using hr
theorem q_or_u8 {T T':TypeId} {x y:Operand} {p q:UInt8} (hx:evalE env x=some (vU8 p)) (hy:evalE env y=some (vU8 q)) :
 QT P n S w0 { dst:=some d,op:=.binOp .or T x y T',type:=ty,pos,after:=af,guard:=g } env L (.val (vU8 (p ||| q))) :=
 q_or_k hx hy (by
  have h:(BitVec.ofInt IntKind.u8.bits (p.toNat:Int) ||| BitVec.ofInt IntKind.u8.bits (q.toNat:Int)).toNat=(p ||| q).toNat:=by
   show (BitVec.ofInt 8 (p.toNat:Int) ||| BitVec.ofInt 8 (q.toNat:Int)).toNat=_
   rw [bv_u8,bv_u8]
   rfl
  rw [h,wrap_self_u8])
theorem q_or_u32 {T T':TypeId} {x y:Operand} {p q:UInt32} (hx:evalE env x=some (vU32 p)) (hy:evalE env y=some (vU32 q)) :
 QT P n S w0 { dst:=some d,op:=.binOp .or T x y T',type:=ty,pos,after:=af,guard:=g } env L (.val (vU32 (p ||| q))) :=
 q_or_k hx hy (by
  have h:(BitVec.ofInt IntKind.u32.bits (p.toNat:Int) ||| BitVec.ofInt IntKind.u32.bits (q.toNat:Int)).toNat=(p ||| q).toNat:=by
   show (BitVec.ofInt 32 (p.toNat:Int) ||| BitVec.ofInt 32 (q.toNat:Int)).toNat=_
   rw [bv_u32,bv_u32]
   rfl
  rw [h,wrap_self_u32])
theorem q_xor_k {T T':TypeId} {x y:Operand} {k:IntKind} {p q r:Int} (hx:evalE env x=some (.int k p)) (hy:evalE env y=some (.int k q)) (hr:k.wrap ((BitVec.ofInt k.bits p ^^^ BitVec.ofInt k.bits q).toNat:Int)=r) :
 QT P n S w0 { dst:=some d,op:=.binOp .xor T x y T',type:=ty,pos,after:=af,guard:=g } env L (.val (.int k r)) :=
 q_bin hx hy fun w=>by simpa [eqGuard,binOp,Op.intBits] using hr
theorem q_xor_u32 {T T':TypeId} {x y:Operand} {p q:UInt32} (hx:evalE env x=some (vU32 p)) (hy:evalE env y=some (vU32 q)) :
 QT P n S w0 { dst:=some d,op:=.binOp .xor T x y T',type:=ty,pos,after:=af,guard:=g } env L (.val (vU32 (p ^^^ q))) :=
 q_xor_k hx hy (by
  have h:(BitVec.ofInt IntKind.u32.bits (p.toNat:Int) ^^^ BitVec.ofInt IntKind.u32.bits (q.toNat:Int)).toNat=(p ^^^ q).toNat:=by
   show (BitVec.ofInt 32 (p.toNat:Int) ^^^ BitVec.ofInt 32 (q.toNat:Int)).toNat=_
   rw [bv_u32,bv_u32]
   rfl
  rw [h,wrap_self_u32])
theorem q_shl_k {T T':TypeId} {x y:Operand} {k k':IntKind} {p:Int} {m:Nat} {r:Int} (hx:evalE env x=some (.int k p)) (hy:evalE env y=some (.int k' (m:Int))) (hr:k.wrap (p*2^(min m k.bits))=r) :
 QT P n S w0 { dst:=some d,op:=.binOp .shl T x y T',type:=ty,pos,after:=af,guard:=g } env L (.val (.int k r)) :=
 q_bin hx hy fun w=>by
  have h:¬ ((m:Int)<0):=by omega
  simp [eqGuard,binOp,Op.shift,h,hr]
theorem q_shr_k {T T':TypeId} {x y:Operand} {k k':IntKind} {p:Int} {m:Nat} {r:Int} (hx:evalE env x=some (.int k p)) (hy:evalE env y=some (.int k' (m:Int))) (hr:p.fdiv (2^(min m k.bits))=r) :
 QT P n S w0 { dst:=some d,op:=.binOp .shr T x y T',type:=ty,pos,after:=af,guard:=g } env L (.val (.int k r)) :=
 q_bin hx hy fun w=>by
  have h:¬ ((m:Int)<0):=by omega
  simp [eqGuard,binOp,Op.shift,h,hr]
theorem q_shr_u8 {T T':TypeId} {x y:Operand} {k':IntKind} {p:UInt8} {m:Nat} (hx:evalE env x=some (vU8 p)) (hy:evalE env y=some (.int k' (m:Int))) :
 QT P n S w0 { dst:=some d,op:=.binOp .shr T x y T',type:=ty,pos,after:=af,guard:=g } env L (.val (vU8 (UInt8.ofNat (p.toNat / 2^(min m 8))))) :=
 q_shr_k hx hy (by
  have h1:=UInt8.toNat_lt p
  have h2:p.toNat / 2^(min m 8)<2^8:=Nat.lt_of_le_of_lt (Nat.div_le_self _ _) h1
  simp only [IntKind.bits,UInt8.toNat_ofNat']
  rw [Nat.mod_eq_of_lt h2,Int.fdiv_eq_ediv_of_nonneg _ (by exact Int.le_of_lt (Int.pow_pos (by omega)))]
  norm_cast)
theorem q_shl_u32 {T T':TypeId} {x y:Operand} {k':IntKind} {p:UInt32} {m:Nat} (hx:evalE env x=some (vU32 p)) (hy:evalE env y=some (.int k' (m:Int))) :
 QT P n S w0 { dst:=some d,op:=.binOp .shl T x y T',type:=ty,pos,after:=af,guard:=g } env L (.val (vU32 (UInt32.ofNat (p.toNat*2^(min m 32))))) :=
 q_shl_k hx hy (by
  simp only [IntKind.wrap,IntKind.bits,IntKind.signed,Bool.false_and,Bool.false_eq_true,if_false,UInt32.toNat_ofNat']
  norm_cast)
theorem q_shr_u32 {T T':TypeId} {x y:Operand} {k':IntKind} {p:UInt32} {m:Nat} (hx:evalE env x=some (vU32 p)) (hy:evalE env y=some (.int k' (m:Int))) :
 QT P n S w0 { dst:=some d,op:=.binOp .shr T x y T',type:=ty,pos,after:=af,guard:=g } env L (.val (vU32 (UInt32.ofNat (p.toNat / 2^(min m 32))))) :=
 q_shr_k hx hy (by
  have h1:=UInt32.toNat_lt p
  have h2:p.toNat / 2^(min m 32)<2^32:=Nat.lt_of_le_of_lt (Nat.div_le_self _ _) h1
  simp only [IntKind.bits,UInt32.toNat_ofNat']
  rw [Nat.mod_eq_of_lt h2,Int.fdiv_eq_ediv_of_nonneg _ (by exact Int.le_of_lt (Int.pow_pos (by omega)))]
  norm_cast)
theorem q_shr_u64 {T T':TypeId} {x y:Operand} {k':IntKind} {p:UInt64} {m:Nat} (hx:evalE env x=some (vU64 p)) (hy:evalE env y=some (.int k' (m:Int))) :
 QT P n S w0 { dst:=some d,op:=.binOp .shr T x y T',type:=ty,pos,after:=af,guard:=g } env L (.val (vU64 (UInt64.ofNat (p.toNat / 2^(min m 64))))) :=
 q_shr_k hx hy (by
  have h1:=UInt64.toNat_lt p
  have h2:p.toNat / 2^(min m 64)<2^64:=Nat.lt_of_le_of_lt (Nat.div_le_self _ _) h1
  simp only [IntKind.bits,UInt64.toNat_ofNat']
  rw [Nat.mod_eq_of_lt h2,Int.fdiv_eq_ediv_of_nonneg _ (by exact Int.le_of_lt (Int.pow_pos (by omega)))]
  norm_cast)
theorem q_quo_n {T T':TypeId} {x y:Operand} {p q:Nat} (hx:evalE env x=some (.int .i64 (p:Int))) (hy:evalE env y=some (.int .i64 (q:Int))) (h1:0<q) (h2:p≤9223372036854775807) :
 QT P n S w0 { dst:=some d,op:=.binOp .quo T x y T',type:=ty,pos,after:=af,guard:=g } env L (.val (.int .i64 ((p / q:Nat):Int))) :=
 q_bin hx hy fun w=>by
  have h:¬ ((q:Int)=0):=by omega
  have h3:((p:Int).tdiv (q:Int))=((p / q:Nat):Int):=by rw [Int.tdiv_eq_ediv_of_nonneg (by omega)];norm_cast
  have h4:p / q≤p:=Nat.div_le_self _ _
  have h5:IntKind.i64.wrap ((p / q:Nat):Int)=((p / q:Nat):Int):=by
   generalize p / q=r at h4
   exact wi (by omega) (by omega)
  have hq:q≠0:=by omega
  simp only [eqGuard,binOp,Op.intDiv,Sem.run_bind,h3,h5]
  simp [hq]
theorem q_rem_n {T T':TypeId} {x y:Operand} {k:IntKind} {p q:Nat} (hx:evalE env x=some (.int k (p:Int))) (hy:evalE env y=some (.int k (q:Int))) (h1:0<q) :
 QT P n S w0 { dst:=some d,op:=.binOp .rem T x y T',type:=ty,pos,after:=af,guard:=g } env L (.val (.int k ((p % q:Nat):Int))) :=
 q_bin hx hy fun w=>by
  have h:¬ ((q:Int)=0):=by omega
  have h3:((p:Int).tmod (q:Int))=((p % q:Nat):Int):=by rw [Int.tmod_eq_emod_of_nonneg (by omega)];norm_cast
  have hq:q≠0:=by omega
  simp only [eqGuard,binOp,Op.intDiv,Sem.run_bind,h3]
  simp [hq]
theorem q_lss_k {T T':TypeId} {x y:Operand} {k:IntKind} {p q:Int} {kd:IntKind} (hT:P.underlying T=some (.int kd)) (hx:evalE env x=some (.int k p)) (hy:evalE env y=some (.int k q)) :
 QT P n S w0 { dst:=some d,op:=.binOp .lss T x y T',type:=ty,pos,after:=af,guard:=g } env L (.val (.bool (decide (p<q)))) :=
 q_bin hx hy fun w=>by simp [eqGuard,binOp,Op.intCmp,Op.equal,Op.maxDepth,Op.equalIn,run_underlying hT]
theorem q_lss_n {T T':TypeId} {x y:Operand} {k:IntKind} {p q:Nat} {kd:IntKind} (hT:P.underlying T=some (.int kd)) (hx:evalE env x=some (.int k (p:Int))) (hy:evalE env y=some (.int k (q:Int))) :
 QT P n S w0 { dst:=some d,op:=.binOp .lss T x y T',type:=ty,pos,after:=af,guard:=g } env L (.val (.bool (decide (p<q)))):=by
 have:=q_lss_k (g:=g) (d:=d) (ty:=ty) (pos:=pos) (af:=af) (n:=n) (S:=S) (w0:=w0) (L:=L) (T':=T') hT hx hy
 simpa only [Int.ofNat_lt,Int.ofNat_le,Int.ofNat_inj] using this
theorem q_leq_k {T T':TypeId} {x y:Operand} {k:IntKind} {p q:Int} {kd:IntKind} (hT:P.underlying T=some (.int kd)) (hx:evalE env x=some (.int k p)) (hy:evalE env y=some (.int k q)) :
 QT P n S w0 { dst:=some d,op:=.binOp .leq T x y T',type:=ty,pos,after:=af,guard:=g } env L (.val (.bool (decide (p≤q)))) :=
 q_bin hx hy fun w=>by simp [eqGuard,binOp,Op.intCmp,Op.equal,Op.maxDepth,Op.equalIn,run_underlying hT]
theorem q_leq_n {T T':TypeId} {x y:Operand} {k:IntKind} {p q:Nat} {kd:IntKind} (hT:P.underlying T=some (.int kd)) (hx:evalE env x=some (.int k (p:Int))) (hy:evalE env y=some (.int k (q:Int))) :
 QT P n S w0 { dst:=some d,op:=.binOp .leq T x y T',type:=ty,pos,after:=af,guard:=g } env L (.val (.bool (decide (p≤q)))):=by
 have:=q_leq_k (g:=g) (d:=d) (ty:=ty) (pos:=pos) (af:=af) (n:=n) (S:=S) (w0:=w0) (L:=L) (T':=T') hT hx hy
 simpa only [Int.ofNat_lt,Int.ofNat_le,Int.ofNat_inj] using this
theorem q_gtr_k {T T':TypeId} {x y:Operand} {k:IntKind} {p q:Int} {kd:IntKind} (hT:P.underlying T=some (.int kd)) (hx:evalE env x=some (.int k p)) (hy:evalE env y=some (.int k q)) :
 QT P n S w0 { dst:=some d,op:=.binOp .gtr T x y T',type:=ty,pos,after:=af,guard:=g } env L (.val (.bool (decide (q<p)))) :=
 q_bin hx hy fun w=>by simp [eqGuard,binOp,Op.intCmp,Op.equal,Op.maxDepth,Op.equalIn,run_underlying hT]
theorem q_gtr_n {T T':TypeId} {x y:Operand} {k:IntKind} {p q:Nat} {kd:IntKind} (hT:P.underlying T=some (.int kd)) (hx:evalE env x=some (.int k (p:Int))) (hy:evalE env y=some (.int k (q:Int))) :
 QT P n S w0 { dst:=some d,op:=.binOp .gtr T x y T',type:=ty,pos,after:=af,guard:=g } env L (.val (.bool (decide (q<p)))):=by
 have:=q_gtr_k (g:=g) (d:=d) (ty:=ty) (pos:=pos) (af:=af) (n:=n) (S:=S) (w0:=w0) (L:=L) (T':=T') hT hx hy
 simpa only [Int.ofNat_lt,Int.ofNat_le,Int.ofNat_inj] using this
theorem q_geq_k {T T':TypeId} {x y:Operand} {k:IntKind} {p q:Int} {kd:IntKind} (hT:P.underlying T=some (.int kd)) (hx:evalE env x=some (.int k p)) (hy:evalE env y=some (.int k q)) :
 QT P n S w0 { dst:=some d,op:=.binOp .geq T x y T',type:=ty,pos,after:=af,guard:=g } env L (.val (.bool (decide (q≤p)))) :=
 q_bin hx hy fun w=>by simp [eqGuard,binOp,Op.intCmp,Op.equal,Op.maxDepth,Op.equalIn,run_underlying hT]
theorem q_geq_n {T T':TypeId} {x y:Operand} {k:IntKind} {p q:Nat} {kd:IntKind} (hT:P.underlying T=some (.int kd)) (hx:evalE env x=some (.int k (p:Int))) (hy:evalE env y=some (.int k (q:Int))) :
 QT P n S w0 { dst:=some d,op:=.binOp .geq T x y T',type:=ty,pos,after:=af,guard:=g } env L (.val (.bool (decide (q≤p)))):=by
 have:=q_geq_k (g:=g) (d:=d) (ty:=ty) (pos:=pos) (af:=af) (n:=n) (S:=S) (w0:=w0) (L:=L) (T':=T') hT hx hy
 simpa only [Int.ofNat_lt,Int.ofNat_le,Int.ofNat_inj] using this
theorem q_eql_k {T T':TypeId} {x y:Operand} {k:IntKind} {p q:Int} {kd:IntKind} (hT:P.underlying T=some (.int kd)) (hx:evalE env x=some (.int k p)) (hy:evalE env y=some (.int k q)) :
 QT P n S w0 { dst:=some d,op:=.binOp .eql T x y T',type:=ty,pos,after:=af,guard:=g } env L (.val (.bool (decide (p=q)))) :=
 q_bin hx hy fun w=>by simp [eqGuard,binOp,Op.intCmp,Op.equal,Op.maxDepth,Op.equalIn,run_underlying hT,bne,Bool.beq_eq_decide_eq]
theorem q_eql_n {T T':TypeId} {x y:Operand} {k:IntKind} {p q:Nat} {kd:IntKind} (hT:P.underlying T=some (.int kd)) (hx:evalE env x=some (.int k (p:Int))) (hy:evalE env y=some (.int k (q:Int))) :
 QT P n S w0 { dst:=some d,op:=.binOp .eql T x y T',type:=ty,pos,after:=af,guard:=g } env L (.val (.bool (decide (p=q)))):=by
 have:=q_eql_k (g:=g) (d:=d) (ty:=ty) (pos:=pos) (af:=af) (n:=n) (S:=S) (w0:=w0) (L:=L) (T':=T') hT hx hy
 simpa only [Int.ofNat_lt,Int.ofNat_le,Int.ofNat_inj] using this
theorem q_neq_k {T T':TypeId} {x y:Operand} {k:IntKind} {p q:Int} {kd:IntKind} (hT:P.underlying T=some (.int kd)) (hx:evalE env x=some (.int k p)) (hy:evalE env y=some (.int k q)) :
 QT P n S w0 { dst:=some d,op:=.binOp .neq T x y T',type:=ty,pos,after:=af,guard:=g } env L (.val (.bool (!decide (p=q)))) :=
 q_bin hx hy fun w=>by simp [eqGuard,binOp,Op.intCmp,Op.equal,Op.maxDepth,Op.equalIn,run_underlying hT,bne,Bool.beq_eq_decide_eq]
theorem q_neq_n {T T':TypeId} {x y:Operand} {k:IntKind} {p q:Nat} {kd:IntKind} (hT:P.underlying T=some (.int kd)) (hx:evalE env x=some (.int k (p:Int))) (hy:evalE env y=some (.int k (q:Int))) :
 QT P n S w0 { dst:=some d,op:=.binOp .neq T x y T',type:=ty,pos,after:=af,guard:=g } env L (.val (.bool (!decide (p=q)))):=by
 have:=q_neq_k (g:=g) (d:=d) (ty:=ty) (pos:=pos) (af:=af) (n:=n) (S:=S) (w0:=w0) (L:=L) (T':=T') hT hx hy
 simpa only [Int.ofNat_lt,Int.ofNat_le,Int.ofNat_inj] using this
theorem q_not {T:TypeId} {x:Operand} {t:Bool} (hx:evalE env x=some (.bool t)):QT P n S w0 { dst:=some d,op:=.unOp .not T x,type:=ty,pos,after:=af,guard:=g } env L (.val (.bool !t)) :=
 q_of rfl fun a w hm H=>by simp [execOp,hm.eval hx,Op.unary]
theorem q_conv_k {src dst:TypeId} {ds:TypeDesc} {x:Operand} {k k':IntKind} {p r:Int} (hs:P.underlying src=some ds) (hd:P.underlying dst=some (.int k)) (hx:evalE env x=some (.int k' p)) (hr:k.wrap p=r) :
 QT P n S w0 { dst:=some d,op:=.convert src dst x,type:=ty,pos,after:=af,guard:=g } env L (.val (.int k r)) :=
 q_of rfl fun a w hm H=>by simp [execOp,hm.eval hx,convert,run_underlying hs,run_underlying hd,Conv.intToInt,hr]
theorem q_conv_nn {src dst:TypeId} {ds:TypeDesc} {x:Operand} {k':IntKind} {p:Nat} (hs:P.underlying src=some ds) (hd:P.underlying dst=some (.int .i64)) (hx:evalE env x=some (.int k' (p:Int))) (h:p≤9223372036854775807) :
 QT P n S w0 { dst:=some d,op:=.convert src dst x,type:=ty,pos,after:=af,guard:=g } env L (.val (.int .i64 (p:Int))) :=
 q_conv_k hs hd hx (wi (by omega) (by omega))
theorem q_conv_nu8 {src dst:TypeId} {ds:TypeDesc} {x:Operand} {k':IntKind} {p:Nat} (hs:P.underlying src=some ds) (hd:P.underlying dst=some (.int .u8)) (hx:evalE env x=some (.int k' (p:Int))) :
 QT P n S w0 { dst:=some d,op:=.convert src dst x,type:=ty,pos,after:=af,guard:=g } env L (.val (vU8 (UInt8.ofNat p))) :=
 q_conv_k hs hd hx (by
  simp only [IntKind.wrap,IntKind.bits,IntKind.signed,Bool.false_and,Bool.false_eq_true,if_false,UInt8.toNat_ofNat']
  norm_cast)
theorem q_conv_nu32 {src dst:TypeId} {ds:TypeDesc} {x:Operand} {k':IntKind} {p:Nat} (hs:P.underlying src=some ds) (hd:P.underlying dst=some (.int .u32)) (hx:evalE env x=some (.int k' (p:Int))) :
 QT P n S w0 { dst:=some d,op:=.convert src dst x,type:=ty,pos,after:=af,guard:=g } env L (.val (vU32 (UInt32.ofNat p))) :=
 q_conv_k hs hd hx (by
  simp only [IntKind.wrap,IntKind.bits,IntKind.signed,Bool.false_and,Bool.false_eq_true,if_false,UInt32.toNat_ofNat']
  norm_cast)
theorem q_conv_nu64 {src dst:TypeId} {ds:TypeDesc} {x:Operand} {k':IntKind} {p:Nat} (hs:P.underlying src=some ds) (hd:P.underlying dst=some (.int .u64)) (hx:evalE env x=some (.int k' (p:Int))) :
 QT P n S w0 { dst:=some d,op:=.convert src dst x,type:=ty,pos,after:=af,guard:=g } env L (.val (vU64 (UInt64.ofNat p))) :=
 q_conv_k hs hd hx (by
  simp only [IntKind.wrap,IntKind.bits,IntKind.signed,Bool.false_and,Bool.false_eq_true,if_false,UInt64.toNat_ofNat']
  norm_cast)
def Reads (S:List Nat) (w0:World) (L:List Res) (A:Option Addr) (vs:List Value):Prop:=∀ w,St S w0 L w→SlAt w A vs
theorem Reads.blk {b:Nat} {T:TypeId} {c:List Value} (k:Nat) (hk:L[k]?=some (.blk b T c)):Reads S w0 L (some ⟨b,0,none⟩) c:=fun w H=>(H.blk hk).sl0
theorem Reads.blkTake {b:Nat} {T:TypeId} {c vs:List Value} (k o m:Nat) (hk:L[k]?=some (.blk b T c)) (hv:(c.drop o).take m=vs):Reads S w0 L (some ⟨b,o,none⟩) vs:=fun w H=>hv ▸ ((H.blk hk).sl o).take m
theorem Reads.row {T:TypeId} {size m cap r:Nat} {A:Option Addr} {xs:List Value} (k:Nat) (hk:L[k]?=some (.row T size (.slice A m cap) r xs)):Reads S w0 L A xs:=fun w H=>Row.sl (H.get hk)
theorem Reads.old {A:Option Addr} {vs:List Value} (h:SlAt w0 A vs):Reads [] w0 L A vs:=fun w H=>H.sl0 h
theorem Reads.take {A:Option Addr} {vs us:List Value} (h:Reads S w0 L A vs) (m:Nat) (hu:vs.take m=us):Reads S w0 L A us:=fun w H=>hu ▸ (h w H).take m
theorem Reads.nil {A:Option Addr}:Reads S w0 L A []:=fun w _=>SlAt.nil w A
def adv (A:Option Addr) (l m sz:Nat):Option Addr:=if m=l then A else A.map (·.add (l*sz))
theorem Reads.adv {A:Option Addr} {vs us:List Value} {l m sz:Nat} (h:Reads S w0 L A vs) (hm:vs.length≤m*sz) (hu:vs.drop (l*sz)=us):Reads S w0 L (PBYtfpdnpppcoomnaaGreat.adv A l m sz) us :=
 fun w H=>hu ▸ (h w H).dropIf (fun e=>by subst e;exact hm)
theorem adv_zero (A:Option Addr) (m sz:Nat):adv A 0 m sz=A:=by
 unfold adv
 split
 ·rfl
 ·cases A with
  | none=>rfl
  | some a=>simp [Addr.add]
theorem q_cell {t:TypeId} {dd:TypeDesc} {x:Operand} {ad:Addr} {v:Value} (hu:P.underlying t=some dd) (hd:(match dd with | .struct _ | .array _ _=>true | _=>false)=false) (hx:evalE env x=some (.pointer (some ad))) (hc:∀ w,St S w0 L w→w.cell? ad=some v) :
 QT P n S w0 { dst:=some d,op:=.load t x,type:=ty,pos,after:=af,guard:=g } env L (.val v) :=
 ⟨fun a w hm H=>opw_load hu hd (hm.eval hx) (hc w H) ⟨v,rfl,fun h=>by simp at h,rfl,St.refl w⟩⟩
theorem q_load {t:TypeId} {dd:TypeDesc} {x:Operand} {b j:Nat} {T:TypeId} {c:List Value} {v:Value} (k:Nat) (hu:P.underlying t=some dd) (hd:(match dd with | .struct _ | .array _ _=>true | _=>false)=false) (hx:evalE env x=some (vP b j)) (hk:L[k]?=some (.blk b T c)) (hc:c[j]?=some v) :
 QT P n S w0 { dst:=some d,op:=.load t x,type:=ty,pos,after:=af,guard:=g } env L (.val v) :=
 q_cell hu hd hx fun w H=>(H.cell hk j).trans hc
theorem q_loadR {t:TypeId} {dd:TypeDesc} {x:Operand} {ad:Addr} {j:Nat} {vs:List Value} {v:Value} (hu:P.underlying t=some dd) (hd:(match dd with | .struct _ | .array _ _=>true | _=>false)=false) (hx:evalE env x=some (.pointer (some (ad.add j)))) (hr:Reads S w0 L (some ad) vs) (hc:vs[j]?=some v) :
 QT P n S w0 { dst:=some d,op:=.load t x,type:=ty,pos,after:=af,guard:=g } env L (.val v) :=
 q_cell hu hd hx fun w H=>(hr w H).get hc
theorem q_loadsR {t:TypeId} {dd:TypeDesc} {x:Operand} {ad:Addr} {vs:List Value} (hu:P.underlying t=some dd) (hd:(match dd with | .struct _ | .array _ _=>true | _=>false)=true) (hi:(P.info? t).map (·.size)=some vs.length) (hx:evalE env x=some (.pointer (some ad))) (hr:Reads S w0 L (some ad) vs) :
 QT P n S w0 { dst:=some d,op:=.load t x,type:=ty,pos,after:=af,guard:=g } env L (.val (.agg vs.toArray)) :=
 ⟨fun a w hm H=>opw_loads hu hd hi (hm.eval hx) (hr w H) ⟨_,rfl,fun h=>by simp at h,rfl,St.refl w⟩⟩
theorem q_loads {t:TypeId} {dd:TypeDesc} {x:Operand} {b sz:Nat} {T:TypeId} {c:List Value} (k:Nat) (hu:P.underlying t=some dd) (hd:(match dd with | .struct _ | .array _ _=>true | _=>false)=true) (hx:evalE env x=some (vP b 0)) (hk:L[k]?=some (.blk b T c)) (hi:(P.info? t).map (·.size)=some sz) (hl:c.length=sz) :
 QT P n S w0 { dst:=some d,op:=.load t x,type:=ty,pos,after:=af,guard:=g } env L (.val (.agg c.toArray)) :=
 q_loadsR hu hd (by rw [hi,hl]) hx (Reads.blk k hk)
theorem q_loadsAt {t:TypeId} {dd:TypeDesc} {x:Operand} {b j sz:Nat} {T:TypeId} {c vs:List Value} (k:Nat) (hu:P.underlying t=some dd) (hd:(match dd with | .struct _ | .array _ _=>true | _=>false)=true) (hx:evalE env x=some (vP b j)) (hk:L[k]?=some (.blk b T c)) (hi:(P.info? t).map (·.size)=some sz) (hv:(c.drop j).take sz=vs) (hl:vs.length=sz) :
 QT P n S w0 { dst:=some d,op:=.load t x,type:=ty,pos,after:=af,guard:=g } env L (.val (.agg vs.toArray)) :=
 q_loadsR hu hd (by rw [hi,hl]) hx (Reads.blkTake k j sz hk hv)
def nBlk (e:TypeId) (c:List Value) (u:Value):List Res:=match u with | .pointer (some ⟨b,_,_⟩)=>[.blk b e c] | _=>[]
theorem q_box {e:TypeId} {x:Operand} {v:Value} {c:List Value} (hx:evalE env x=some v) (hc:v.cells.toList=c) :
 QT P n S w0 { dst:=some d,op:=.box e x,type:=ty,pos,after:=af,guard:=g } env L (.any (fun u=>∃ b,u=vP b 0) (nBlk e c)) :=
 ⟨fun a w hm H=>opw_box (St.refl w) (by rw [hm.eval hx];exact hc) fun w' b H'=>⟨_,rfl,fun h=>by simp at h,⟨b,rfl⟩,H'⟩⟩
theorem q_alloc {e:TypeId} {z:Value} {c:List Value} (hi:(P.info? e).map (·.zero)=some (some z)) (hc:z.cells.toList=c) :
 QT P n S w0 { dst:=some d,op:=.alloc e,type:=ty,pos,after:=af,guard:=g } env L (.any (fun u=>∃ b,u=vP b 0) (nBlk e c)):=by
 subst hc
 exact ⟨fun a w hm H=>opw_allocZ (St.refl w) hi fun w' b H'=>⟨_,rfl,fun h=>by simp at h,⟨b,rfl⟩,H'⟩⟩
theorem l_box {e:TypeId} {x:Operand} {v:Value} {c:List Value} (hx:evalE env x=some v) (hc:v.cells.toList=c) (hd:dstOk n (some d)=true) (h:∀ b,VL P n S w0 ops Q rest ((d,vP b 0)::env) (.blk b e c::L)) :
 VL P n S w0 ops Q ({ dst:=some d,op:=.box e x,type:=ty,pos,after:=af,guard:=none }::rest) env L :=
 vl_q (q_box hx hc) trivial hd (by rintro v ⟨b,rfl⟩;exact h b)
theorem l_alloc {e:TypeId} {z:Value} {c:List Value} (hi:(P.info? e).map (·.zero)=some (some z)) (hc:z.cells.toList=c) (hd:dstOk n (some d)=true) (h:∀ b,VL P n S w0 ops Q rest ((d,vP b 0)::env) (.blk b e c::L)) :
 VL P n S w0 ops Q ({ dst:=some d,op:=.alloc e,type:=ty,pos,after:=af,guard:=none }::rest) env L :=
 vl_q (q_alloc hi hc) trivial hd (by rintro v ⟨b,rfl⟩;exact h b)
def nRow (e:TypeId) (size m:Nat) (xs:List Value) (u:Value):List Res:=[.row e size u m xs]
def nMk (e:TypeId) (c:List Value) (u:Value):List Res:=match u with | .slice (some ⟨b,_,_⟩) _ _=>[.blk b e c] | _=>[]
theorem q_make {t e:TypeId} {l c:Operand} {z:Value} {bytes m:Nat} {kl kc:IntKind} (hu:P.underlying t=some (.slice e)) (hi:(P.info? e).map (fun i=>(i.zero,i.size,i.bytes))=some (some z,1,bytes)) (hz:z.oneCell'=true)
 (hl:evalE env l=some (.int kl (m:Int))) (hc:evalE env c=some (.int kc (m:Int))) (hb:bytes*m≤281474976710656) (hm:m≤maxLen) :
 QT P n S w0 { dst:=some d,op:=.makeSlice t l c,type:=ty,pos,after:=af,guard:=g } env L (.any (fun u=>∃ b,u=.slice (some ⟨b,0,none⟩) m m) (nMk e (List.replicate m z))) :=
 ⟨fun a w hmo H=>opw_make (St.refl w) hu hi hz (hmo.eval hl) (hmo.eval hc) hb hm fun w' b H'=>⟨_,rfl,fun h=>by simp at h,⟨b,rfl⟩,H'⟩⟩
theorem l_make {t e:TypeId} {l c:Operand} {z:Value} {bytes m:Nat} {kl kc:IntKind} (hu:P.underlying t=some (.slice e)) (hi:(P.info? e).map (fun i=>(i.zero,i.size,i.bytes))=some (some z,1,bytes)) (hz:z.oneCell'=true)
 (hl:evalE env l=some (.int kl (m:Int))) (hc:evalE env c=some (.int kc (m:Int))) (hb:bytes*m≤281474976710656) (hm:m≤maxLen) (hd:dstOk n (some d)=true)
 (h:∀ b,VL P n S w0 ops Q rest ((d,.slice (some ⟨b,0,none⟩) m m)::env) (.blk b e (List.replicate m z)::L)) :
 VL P n S w0 ops Q ({ dst:=some d,op:=.makeSlice t l c,type:=ty,pos,after:=af,guard:=none }::rest) env L :=
 vl_q (q_make hu hi hz hl hc hb hm) trivial hd (by rintro v ⟨b,rfl⟩;exact h b)
theorem q_room {t e:TypeId} {l c:Operand} {z:Value} {size bytes m:Nat} {kl kc:IntKind} (hu:P.underlying t=some (.slice e)) (hi:(P.info? e).map (fun i=>(i.zero,i.size,i.bytes))=some (some z,size,bytes))
 (hl:evalE env l=some (.int kl 0)) (hc:evalE env c=some (.int kc (m:Int))) (hb:bytes*m≤281474976710656) (hm:m≤maxLen) :
 QT P n S w0 { dst:=some d,op:=.makeSlice t l c,type:=ty,pos,after:=af,guard:=g } env L (.any (fun u=>True) (nRow e size 0 [])) :=
 ⟨fun a w hmo H=>opw_room (St.refl w) hu hi (hmo.eval hl) (hmo.eval hc) hb hm fun w' b H'=>⟨_,rfl,fun h=>by simp at h,trivial,H'⟩⟩
theorem l_room {t e:TypeId} {l c:Operand} {z:Value} {size bytes m:Nat} {kl kc:IntKind} (hu:P.underlying t=some (.slice e)) (hi:(P.info? e).map (fun i=>(i.zero,i.size,i.bytes))=some (some z,size,bytes))
 (hl:evalE env l=some (.int kl 0)) (hc:evalE env c=some (.int kc (m:Int))) (hb:bytes*m≤281474976710656) (hm:m≤maxLen) (hd:dstOk n (some d)=true)
 (h:∀ v,VL P n S w0 ops Q rest ((d,v)::env) (.row e size v 0 []::L)) :
 VL P n S w0 ops Q ({ dst:=some d,op:=.makeSlice t l c,type:=ty,pos,after:=af,guard:=none }::rest) env L :=
 vl_q (q_room hu hi hl hc hb hm) trivial hd (fun v _=>h v)
theorem q_lit {t e:TypeId} {m bytes:Nat} {pr:Array (Nat × Operand)} {z:Value} {ps:List (Nat × Value)} (hu:P.underlying t=some (.slice e)) (hi:(P.info? e).map (fun i=>(i.zero,i.size,i.bytes))=some (some z,1,bytes)) (hsm:m≤16777216) (hz:z.oneCell'=true)
 (hp:evalsE env (pr.toList.map (·.2))=some (ps.map (·.2))) (hi2:pr.toList.map (·.1)=ps.map (·.1)) (h1:∀ p∈ps,p.2.oneCell'=true∧p.1<m) :
 QT P n S w0 { dst:=some d,op:=.buildSlice t m pr,type:=ty,pos,after:=af,guard:=g } env L (.any (fun u=>∃ b,u=.slice (some ⟨b,0,none⟩) m m) (nRow e 1 m (fillL (List.replicate m z) ps))) :=
 ⟨fun a w hmo H=>opw_lit1 ps (St.refl w) hu hi hsm hz (by
  have h2:=hmo.evals hp
  rw [List.map_map] at h2
  have key:∀ (l:List (Nat × Operand)) (q:List (Nat × Value)),l.map (a.eval ∘ fun x=>x.2)=q.map (·.2)→l.map (·.1)=q.map (·.1)→(l.map fun p=>(p.1,a.eval p.2))=q:=by
   intro l
   induction l with
   | nil=>intro q h3 h4;cases q with | nil=>rfl | cons y q=>simp at h4
   | cons y l ih =>
    intro q h3 h4
    cases q with
    | nil=>simp at h4
    | cons z q =>
     simp only [List.map_cons,List.cons.injEq,Function.comp] at h3 h4
     rw [List.map_cons,ih q h3.2 h4.2,h3.1,h4.1]
  exact key _ _ h2 hi2) h1 fun w' b H'=>⟨_,rfl,fun h=>by simp at h,⟨b,rfl⟩,H'⟩⟩
theorem vl_run (hg:Met ops env o.guard) (h:∀ a w,Models n env a→St S w0 L w→o.wp P a w (wpList P ops (lift n S w0 Q) rest) (lift n S w0 Q)):VL P n S w0 ops Q (o::rest) env L:=by
 refine ⟨fun a w hm H=>?_⟩
 unfold wpList
 rw [if_pos (hg.wanted hm)]
 exact .inl (h a w hm H)
theorem splice_set {c:List Value} {j:Nat} {v:Value} (h:j<c.length):splice c j [v]=c.set j v:=by
 rw [List.set_eq_take_append_cons_drop,if_pos h]
 simp [splice]
theorem l_store1 {t:TypeId} {x y:Operand} {b j:Nat} {T:TypeId} {c:List Value} {v:Value} (k:Nat) (hx:evalE env x=some (vP b j)) (hy:evalE env y=some v) (hk:L[k]?=some (.blk b T c)) (hi:(P.info? t).map (·.size)=some 1) (h1:v.oneCell'=true) (hl:j<c.length)
 (h:VL P n S w0 ops Q rest env (L.set k (.blk b T (c.set j v)))):VL P n S w0 ops Q ({ dst:=none,op:=.store t x y,type:=ty,pos,after:=af,guard:=none }::rest) env L :=
 vl_run trivial fun a w hm H=>opw_store1 v H hk (hm.eval hx) (hm.eval hy) hi hl h1 fun w' H'=>h.run _ w' hm (by rw [← splice_set hl];exact H')
theorem l_storeAt {t:TypeId} {x y:Operand} {b j sz:Nat} {T:TypeId} {c vs:List Value} {v:Value} (k:Nat) (hx:evalE env x=some (vP b j)) (hy:evalE env y=some v) (hk:L[k]?=some (.blk b T c)) (hi:(P.info? t).map (·.size)=some sz) (hv:v.cells.toList=vs) (hs:vs.length=sz) (h1:∀ u∈vs,u.oneCell'=true) (hl:j+sz≤c.length)
 (h:VL P n S w0 ops Q rest env (L.set k (.blk b T (splice c j vs)))):VL P n S w0 ops Q ({ dst:=none,op:=.store t x y,type:=ty,pos,after:=af,guard:=none }::rest) env L :=
 vl_run trivial fun a w hm H=>opw_store H hk (hm.eval hx) (by rw [hm.eval hy];exact hv) (by rw [hi,hs]) (by omega) h1 fun w' H'=>h.run _ w' hm H'
theorem l_storeAll {t:TypeId} {x y:Operand} {b sz:Nat} {T:TypeId} {c vs:List Value} {v:Value} (k:Nat) (hx:evalE env x=some (vP b 0)) (hy:evalE env y=some v) (hk:L[k]?=some (.blk b T c)) (hi:(P.info? t).map (·.size)=some sz) (hv:v.cells.toList=vs) (hs:vs.length=sz) (h1:∀ u∈vs,u.oneCell'=true) (hl:c.length=sz)
 (h:VL P n S w0 ops Q rest env (L.set k (.blk b T vs))):VL P n S w0 ops Q ({ dst:=none,op:=.store t x y,type:=ty,pos,after:=af,guard:=none }::rest) env L :=
 l_storeAt k hx hy hk hi hv hs h1 (by omega) (by rw [splice_all (by omega)];exact h)
def BndE (env:Env):Option Operand→Nat→Nat→Prop
 | none,dflt,l=>l=dflt
 | some y,_,l=>∃ k,evalE env y=some (.int k (l:Int))
theorem BndE.or {env:Env} {a:Act} (hm:Models n env a) {lo:Option Operand} {dflt l:Nat} (h:BndE env lo dflt l):(lo=none∧l=dflt)∨∃ k y,lo=some y∧a.eval y=.int k (l:Int):=by
 cases lo with
 | none=>exact .inl ⟨rfl,h⟩
 | some y=>obtain ⟨k,h⟩:=h;exact .inr ⟨k,y,rfl,hm.eval h⟩
theorem run_bnds {cap l h m:Nat} {w:World} {vl vh vm:Option Value} (fl:Bool) (len:Nat) (hq:vm=none∨vh.isSome=true) (hl:(vl=none∧l=0)∨∃ k,vl=some (.int k (l:Int))) (hh:(vh=none∧h=len)∨∃ k,vh=some (.int k (h:Int))) (hm:(vm=none∧m=cap)∨∃ k,vm=some (.int k (m:Int)))
 (h1:l≤h) (h2:h≤m) (h3:m≤cap):(Instr.sliceBounds fl len cap vl vh vm).run P w=.ok (l,h,m) w:=by
 have hb:∀ (k:IntKind) (i y:Nat) (code:BoundsCode),i≤y→(Instr.sliceBound (.int k (i:Int)) y code).run P w=.ok i w:=fun k i y code hi=>run_sliceBound_nat hi
 rcases hl with ⟨rfl,rfl⟩ | ⟨kl,rfl⟩<;>rcases hh with ⟨rfl,rfl⟩ | ⟨kh,rfl⟩<;>rcases hm with ⟨rfl,rfl⟩ | ⟨km,rfl⟩ <;>
  simp [Instr.sliceBounds,hb,h1,h2,h3] at hq ⊢
theorem BndE.opt {env:Env} {a:Act} (hm:Models n env a) {lo:Option Operand} {dflt l:Nat} (h:BndE env lo dflt l):(lo.map a.eval=none∧l=dflt)∨∃ k,lo.map a.eval=some (.int k (l:Int)):=by
 cases lo with
 | none=>exact .inl ⟨rfl,h⟩
 | some y=>obtain ⟨k,h⟩:=h;exact .inr ⟨k,by rw [Option.map_some,hm.eval h]⟩
theorem q_slcA {t e:TypeId} {x:Operand} {lo hi mx:Option Operand} {len sz b o l h m r:Nat} (hu:P.underlying t=some (.array len e)) (hi':(P.info? e).map (·.size)=some sz) (hx:evalE env x=some (vP b o)) (hlo:BndE env lo 0 l) (hhi:BndE env hi len h) (hmx:BndE env mx len m) (hmh:mx=none∨hi.isSome=true)
 (h1:l≤h) (h2:h≤m) (h3:m≤len) (h4:l<m∨l=0) (hr:o+l*sz=r):QT P n S w0 { dst:=some d,op:=.slice t x lo hi mx,type:=ty,pos,after:=af,guard:=g } env L (.val (.slice (some ⟨b,r,none⟩) (h-l) (m-l))) :=
 q_of rfl fun a w hmo H=>by
  cases hq:P.info? e with
  | none=>simp [hq] at hi'
  | some i =>
   have hs:i.size=sz:=by simpa [hq] using hi'
   have e1:(Instr.sliceBounds false len len (lo.map a.eval) (hi.map a.eval) (mx.map a.eval)).run P w=.ok (l,h,m) w:=run_bnds _ len (by rcases hmh with rfl | h<;>simp_all) (hlo.opt hmo) (hhi.opt hmo) (hmx.opt hmo) h1 h2 h3
   have e2:(if m=l then (⟨b,o,none⟩:Addr) else (⟨b,o,none⟩:Addr).add (l*sz))=⟨b,r,none⟩:=by
    subst hr
    split
    ·have:l=0:=by omega
     subst this;simp
    ·rw [Addr.add_lit]
   simp [execOp,Instr.sliceAt,run_underlying hu,hmo.eval hx,Instr.sureAddr,e1,sizeOf,typeInfo,hq,hs,e2]
theorem q_slcS {t e:TypeId} {x:Operand} {lo hi mx:Option Operand} {sz len cap l h m:Nat} {A:Option Addr} (hu:P.underlying t=some (.slice e)) (hi':(P.info? e).map (·.size)=some sz) (hx:evalE env x=some (.slice A len cap)) (hlo:BndE env lo 0 l) (hhi:BndE env hi len h) (hmx:BndE env mx cap m) (hmh:mx=none∨hi.isSome=true)
 (h1:l≤h) (h2:h≤m) (h3:m≤cap):QT P n S w0 { dst:=some d,op:=.slice t x lo hi mx,type:=ty,pos,after:=af,guard:=g } env L (.val (.slice (adv A l m sz) (h-l) (m-l))) :=
 q_of rfl fun a w hmo H=>by
  cases hq:P.info? e with
  | none=>simp [hq] at hi'
  | some i =>
   have hs:i.size=sz:=by simpa [hq] using hi'
   have e1:(Instr.sliceBounds true len cap (lo.map a.eval) (hi.map a.eval) (mx.map a.eval)).run P w=.ok (l,h,m) w:=run_bnds _ len (by rcases hmh with rfl | h<;>simp_all) (hlo.opt hmo) (hhi.opt hmo) (hmx.opt hmo) h1 h2 h3
   simp [execOp,Instr.sliceAt,Instr.slice,run_underlying hu,hmo.eval hx,e1,sizeOf,typeInfo,hq,hs,adv]
theorem q_slcS0 {t e:TypeId} {x:Operand} {hi mx:Option Operand} {sz len cap h m:Nat} {A:Option Addr} (hu:P.underlying t=some (.slice e)) (hi':(P.info? e).map (·.size)=some sz) (hx:evalE env x=some (.slice A len cap)) (hhi:BndE env hi len h) (hmx:BndE env mx cap m) (hmh:mx=none∨hi.isSome=true)
 (h2:h≤m) (h3:m≤cap):QT P n S w0 { dst:=some d,op:=.slice t x none hi mx,type:=ty,pos,after:=af,guard:=g } env L (.val (.slice A h m)):=by
 have:=q_slcS (g:=g) (d:=d) (ty:=ty) (pos:=pos) (af:=af) (n:=n) (S:=S) (w0:=w0) (L:=L) (lo:=none) (l:=0) hu hi' hx rfl hhi hmx hmh (Nat.zero_le _) h2 h3
 rwa [adv_zero,Nat.sub_zero,Nat.sub_zero] at this
theorem q_idxA {t e:TypeId} {x y:Operand} {k:IntKind} {len sz b o m r:Nat} (hu:P.underlying t=some (.array len e)) (hi:(P.info? e).map (·.size)=some sz) (hx:evalE env x=some (vP b o)) (hy:evalE env y=some (.int k (m:Int))) (hm:m<len) (hr:o+m*sz=r) :
 QT P n S w0 { dst:=some d,op:=.indexAddr t x y,type:=ty,pos,after:=af,guard:=g } env L (.val (vP b r)) :=
 q_of rfl fun a w hmo H=>by
  cases hq:P.info? e with
  | none=>simp [hq] at hi
  | some i =>
   have hs:i.size=sz:=by simpa [hq] using hi
   subst hr
   have h1:(0:Int)≤(m:Int)∧(m:Int)<(len:Int):=by omega
   simp [execOp,Instr.indexAt,run_underlying hu,hmo.eval hx,hmo.eval hy,asIntOf,Instr.sureAddr,hm,sizeOf,typeInfo,hq,hs,Addr.add_lit]
theorem q_idxS {t e:TypeId} {x y:Operand} {k:IntKind} {len cap sz m:Nat} {ad:Addr} (hu:P.underlying t=some (.slice e)) (hi:(P.info? e).map (·.size)=some sz) (hx:evalE env x=some (.slice (some ad) len cap)) (hy:evalE env y=some (.int k (m:Int))) (hm:m<len) :
 QT P n S w0 { dst:=some d,op:=.indexAddr t x y,type:=ty,pos,after:=af,guard:=g } env L (.val (.pointer (some (ad.add (m*sz))))) :=
 q_of rfl fun a w hmo H=>by
  cases hq:P.info? e with
  | none=>simp [hq] at hi
  | some i =>
   have hs:i.size=sz:=by simpa [hq] using hi
   have h1:(0:Int)≤(m:Int)∧(m:Int)<(len:Int):=by omega
   simp [execOp,Instr.indexAt,run_underlying hu,hmo.eval hx,hmo.eval hy,asIntOf,hm,sizeOf,typeInfo,hq,hs]
theorem q_idxS1 {t e:TypeId} {x y:Operand} {k:IntKind} {len cap m:Nat} {ad:Addr} (hu:P.underlying t=some (.slice e)) (hi:(P.info? e).map (·.size)=some 1) (hx:evalE env x=some (.slice (some ad) len cap)) (hy:evalE env y=some (.int k (m:Int))) (hm:m<len) :
 QT P n S w0 { dst:=some d,op:=.indexAddr t x y,type:=ty,pos,after:=af,guard:=g } env L (.val (.pointer (some (ad.add m)))):=by
 have:=q_idxS (g:=g) (d:=d) (ty:=ty) (pos:=pos) (af:=af) (n:=n) (S:=S) (w0:=w0) (L:=L) hu hi hx hy hm
 rwa [Nat.mul_one] at this
theorem q_idxS0 {t e:TypeId} {x y:Operand} {k:IntKind} {len cap sz b o m r:Nat} (hu:P.underlying t=some (.slice e)) (hi:(P.info? e).map (·.size)=some sz) (hx:evalE env x=some (.slice (some ⟨b,o,none⟩) len cap)) (hy:evalE env y=some (.int k (m:Int))) (hm:m<len) (hr:o+m*sz=r) :
 QT P n S w0 { dst:=some d,op:=.indexAddr t x y,type:=ty,pos,after:=af,guard:=g } env L (.val (vP b r)):=by
 have:=q_idxS (g:=g) (d:=d) (ty:=ty) (pos:=pos) (af:=af) (n:=n) (S:=S) (w0:=w0) (L:=L) hu hi hx hy hm
 rwa [Addr.add_lit,hr] at this
def fieldOff (P:Program) (s:TypeId) (f:Nat):Option (Nat × Nat) :=
 match P.underlying s with
 | some (.struct fs)=>match fs[f]? with
  | some fd=>match P.info? fd.type with
   | some i=>some (fd.offset,i.size)
   | none=>none
  | none=>none
 | _=>none
theorem fieldOff_spec {s:TypeId} {f off sz:Nat} (h:fieldOff P s f=some (off,sz)):∃ fs fd i,P.underlying s=some (.struct fs)∧fs[f]?=some fd∧P.info? fd.type=some i∧fd.offset=off∧i.size=sz:=by
 unfold fieldOff at h
 split at h
 ·rename_i fs hu
  split at h
  ·rename_i fd hf
   split at h
   ·rename_i i hi
    simp only [Option.some.injEq,Prod.mk.injEq] at h
    exact ⟨fs,fd,i,hu,hf,hi,h.1,h.2⟩
   ·simp at h
  ·simp at h
 ·simp at h
theorem q_fldA {s:TypeId} {x:Operand} {f off sz b o r:Nat} (hf:fieldOff P s f=some (off,sz)) (hz:sz≠0) (hx:evalE env x=some (vP b o)) (hr:o+off=r) :
 QT P n S w0 { dst:=some d,op:=.fieldAddr s x f,type:=ty,pos,after:=af,guard:=g } env L (.val (vP b r)) :=
 q_of rfl fun a w hmo H=>by
  obtain ⟨fs,fd,i,hu,hfd,hi,rfl,rfl⟩:=fieldOff_spec hf
  subst hr
  simp [execOp,Instr.fieldAt,run_underlying hu,hfd,hmo.eval hx,Instr.sureAddr,fieldPlace,sizeOf,typeInfo,hi,hz,Addr.add_lit]
theorem q_nilck {x:Operand} {ad:Addr} (hx:evalE env x=some (.pointer (some ad))):QT P n S w0 { dst:=some d,op:=.nilCheck x,type:=ty,pos,after:=af,guard:=g } env L (.val (.pointer (some ad))) :=
 q_of rfl fun a w hm H=>by simp [execOp,hm.eval hx]
theorem q_ext {x:Operand} {vs:Array Value} {i:Nat} {v:Value} (hx:evalE env x=some (.tuple vs)) (hi:vs[i]?=some v):QT P n S w0 { dst:=some d,op:=.extract x i,type:=ty,pos,after:=af,guard:=g } env L (.val v) :=
 q_of rfl fun a w hm H=>by simp [execOp,hm.eval hx,Instr.extract,hi]
theorem run_part1 {t:TypeId} {dd:TypeDesc} {cs:Array Value} {off:Nat} {v:Value} (hu:P.underlying t=some dd) (hd:(match dd with | .struct _ | .array _ _=>true | _=>false)=false) (h:cs[off]?=some v) (w:World):(part t cs off).run P w=.ok v w:=by
 have hagg:(isAgg t).run P w=.ok false w:=by
  unfold isAgg
  rw [Sem.run_bind,run_underlying hu w]
  cases dd<;>simp_all
 simp [part,hagg,h]
theorem run_partA {t:TypeId} {dd:TypeDesc} {cs:Array Value} {off sz:Nat} {vs:List Value} (hu:P.underlying t=some dd) (hd:(match dd with | .struct _ | .array _ _=>true | _=>false)=true) (hi:(P.info? t).map (·.size)=some sz) (h:(cs.toList.drop off).take sz=vs) (w:World):(part t cs off).run P w=.ok (.agg vs.toArray) w:=by
 have hagg:(isAgg t).run P w=.ok true w:=by
  unfold isAgg
  rw [Sem.run_bind,run_underlying hu w]
  cases dd<;>simp_all
 cases hq:P.info? t with
 | none=>simp [hq] at hi
 | some i =>
  have hs:i.size=sz:=by simpa [hq] using hi
  subst h
  simp [part,hagg,sizeOf,typeInfo,hq,hs]
  apply Array.ext'
  simp [List.drop_take]
theorem q_idxV {t e:TypeId} {dd:TypeDesc} {x y:Operand} {k:IntKind} {len m:Nat} {cs:Array Value} {v:Value} (hu:P.underlying t=some (.array len e)) (he:P.underlying e=some dd) (hd:(match dd with | .struct _ | .array _ _=>true | _=>false)=false) (hi:(P.info? e).map (·.size)=some 1)
 (hx:evalE env x=some (.agg cs)) (hy:evalE env y=some (.int k (m:Int))) (hm:m<len) (hv:cs[m]?=some v):QT P n S w0 { dst:=some d,op:=.index t x y,type:=ty,pos,after:=af,guard:=g } env L (.val v) :=
 q_of rfl fun a w hmo H=>by
  cases hq:P.info? e with
  | none=>simp [hq] at hi
  | some i =>
   have hs:i.size=1:=by simpa [hq] using hi
   have h1:(0:Int)≤(m:Int)∧(m:Int)<(len:Int):=by omega
   have hp:=run_part1 (P:=P) he hd hv w
   simp [execOp,Instr.index,run_underlying hu,hmo.eval hx,hmo.eval hy,asIntOf,hm,sizeOf,typeInfo,hq,hs,hp]
theorem q_idxVA {t e:TypeId} {dd:TypeDesc} {x y:Operand} {k:IntKind} {len m sz:Nat} {cs:Array Value} {vs:List Value} (hu:P.underlying t=some (.array len e)) (he:P.underlying e=some dd) (hd:(match dd with | .struct _ | .array _ _=>true | _=>false)=true) (hi:(P.info? e).map (·.size)=some sz)
 (hx:evalE env x=some (.agg cs)) (hy:evalE env y=some (.int k (m:Int))) (hm:m<len) (hv:(cs.toList.drop (m*sz)).take sz=vs):QT P n S w0 { dst:=some d,op:=.index t x y,type:=ty,pos,after:=af,guard:=g } env L (.val (.agg vs.toArray)) :=
 q_of rfl fun a w hmo H=>by
  have hp:=run_partA (P:=P) he hd hi hv w
  cases hq:P.info? e with
  | none=>simp [hq] at hi
  | some i =>
   have hs:i.size=sz:=by simpa [hq] using hi
   have h1:(0:Int)≤(m:Int)∧(m:Int)<(len:Int):=by omega
   simp [execOp,Instr.index,run_underlying hu,hmo.eval hx,hmo.eval hy,asIntOf,hm,sizeOf,typeInfo,hq,hs,hp]
def fieldTy (P:Program) (s:TypeId) (f:Nat):Option (TypeId × Nat) :=
 match P.underlying s with
 | some (.struct fs)=>(fs[f]?).map fun fd=>(fd.type,fd.offset)
 | _=>none
theorem fieldTy_spec {s:TypeId} {f:Nat} {T:TypeId} {off:Nat} (h:fieldTy P s f=some (T,off)):∃ fs fd,P.underlying s=some (.struct fs)∧fs[f]?=some fd∧fd.type=T∧fd.offset=off:=by
 unfold fieldTy at h
 split at h
 ·rename_i fs hu
  cases hf:fs[f]? with
  | none=>rw [hf] at h;simp at h
  | some fd =>
   rw [hf] at h
   simp only [Option.map_some,Option.some.injEq,Prod.mk.injEq] at h
   exact ⟨fs,fd,hu,hf,h.1,h.2⟩
 ·simp at h
theorem q_fldVA {s T:TypeId} {x:Operand} {dd:TypeDesc} {f off sz:Nat} {cs:Array Value} {vs:List Value} (hf:fieldTy P s f=some (T,off)) (hT:P.underlying T=some dd) (hd:(match dd with | .struct _ | .array _ _=>true | _=>false)=true) (hi:(P.info? T).map (·.size)=some sz) (hx:evalE env x=some (.agg cs)) (hv:(cs.toList.drop off).take sz=vs) :
 QT P n S w0 { dst:=some d,op:=.field s x f,type:=ty,pos,after:=af,guard:=g } env L (.val (.agg vs.toArray)) :=
 q_of rfl fun a w hmo H=>by
  obtain ⟨fs,fd,hu,hfd,rfl,rfl⟩:=fieldTy_spec hf
  have hp:=run_partA (P:=P) hT hd hi hv w
  simp [execOp,Instr.field,run_underlying hu,hmo.eval hx,hfd,asAgg,hp]
theorem q_build {t:TypeId} {pr:Array (Nat × Operand)} {c':List Value} {vs:List Value} (hp:evalsE env (pr.toList.map (·.2))=some vs) (hb:P.built t ((pr.toList.map (·.1)).zip vs)=some c'.toArray) :
 QT P n S w0 { dst:=some d,op:=.build t pr,type:=ty,pos,after:=af,guard:=g } env L (.val (.agg c'.toArray)) :=
 ⟨fun a w hm H=>opw_build _ rfl (by
  have h2:=hm.evals hp
  rw [List.map_map] at h2
  rw [← h2] at hb
  have key:∀ (l:List (Nat × Operand)),(l.map (·.1)).zip (l.map (a.eval ∘ fun x=>x.2))=l.map fun p=>(p.1,a.eval p.2):=by
   intro l
   induction l with
   | nil=>rfl
   | cons y l ih=>simp only [List.map_cons,List.zip_cons_cons,ih,Function.comp]
  rw [key] at hb
  exact hb) ⟨_,rfl,fun h=>by simp at h,rfl,St.refl w⟩⟩
theorem q_lenS {t e:TypeId} {x:Operand} {A:Option Addr} {len cap:Nat} (hu:P.underlying t=some (.slice e)) (hx:evalE env x=some (.slice A len cap)) :
 QT P n S w0 { dst:=some d,op:=.call { callee:=.builtin .len,args:=#[x],argTypes:=#[t] },type:=ty,pos,after:=af,guard:=g } env L (.val (vN len)) :=
 q_of rfl fun a w hm H=>by simp [execOp,resolve,invoke,builtin,Builtin.len_,run_underlying hu,hm.eval hx,goInt]
theorem q_min {ats:Array TypeId} {x y:Operand} {k:IntKind} {p q:Nat} (hx:evalE env x=some (.int k (p:Int))) (hy:evalE env y=some (.int k (q:Int))) :
 QT P n S w0 { dst:=some d,op:=.call { callee:=.builtin .min,args:=#[x,y],argTypes:=ats },type:=ty,pos,after:=af,guard:=g } env L (.val (.int k ((min p q:Nat):Int))) :=
 q_of rfl fun a w hm H=>by
  have e:(if (q:Int)<(p:Int) then (q:Int) else (p:Int))=((min p q:Nat):Int):=by split<;>omega
  simp [execOp,resolve,invoke,builtin,Builtin.min_,Builtin.min2,hm.eval hx,hm.eval hy]
  omega
theorem q_minI {ats:Array TypeId} {x y:Operand} {k:IntKind} {p q:Int} (hx:evalE env x=some (.int k p)) (hy:evalE env y=some (.int k q)) :
 QT P n S w0 { dst:=some d,op:=.call { callee:=.builtin .min,args:=#[x,y],argTypes:=ats },type:=ty,pos,after:=af,guard:=g } env L (.val (.int k (min p q))) :=
 q_of rfl fun a w hm H=>by
  simp [execOp,resolve,invoke,builtin,Builtin.min_,Builtin.min2,hm.eval hx,hm.eval hy]
  omega
theorem q_maxI {ats:Array TypeId} {x y:Operand} {k:IntKind} {p q:Int} (hx:evalE env x=some (.int k p)) (hy:evalE env y=some (.int k q)) :
 QT P n S w0 { dst:=some d,op:=.call { callee:=.builtin .max,args:=#[x,y],argTypes:=ats },type:=ty,pos,after:=af,guard:=g } env L (.val (.int k (max p q))) :=
 q_of rfl fun a w hm H=>by
  simp [execOp,resolve,invoke,builtin,Builtin.max_,Builtin.max2,hm.eval hx,hm.eval hy]
  omega
theorem q_str {src dst e:TypeId} {x:Operand} {A:Option Addr} {len cap:Nat} {l:List UInt8} (hs:P.underlying src=some (.slice e)) (he:P.underlying e=some (.int .u8)) (hd:P.underlying dst=some .string) (hx:evalE env x=some (.slice A len cap)) (hr:Reads S w0 L A (bys l)) (hl:len=l.length) :
 QT P n S w0 { dst:=some d,op:=.convert src dst x,type:=ty,pos,after:=af,guard:=g } env L (.val (.string ⟨l.toArray⟩)) :=
 ⟨fun a w hm H=>opw_str hs he hd (hm.eval hx) (hr w H) hl ⟨_,rfl,fun h=>by simp at h,rfl,St.refl w⟩⟩
theorem q_call {f:FuncId} {fn:Func} {xs:Array Operand} {ats:Array TypeId} {args:List Value} {s:Sp} (hf:P.funcs[f]?=some fn) (hb:fn.body.isSome=true) (hn:(fn.name == "runtime.NumGoroutine")=false) (hx:evalsE env xs.toList=some args)
 (hc:∀ w,St S w0 L w→Calls P f args.toArray w (fun e w'=>∃ v,e=.returned v∧s.fact v∧St [] w (s.res v) w')) :
 QT P n S w0 { dst:=some d,op:=.call { callee:=.value (.func f),args:=xs,argTypes:=ats },type:=ty,pos,after:=af,guard:=g } env L s :=
 ⟨fun a w hm H=>opw_call args hf hb hn (hm.evals hx) ((hc w H).mono fun e w' ⟨v,h1,h2,h3⟩=>⟨v,h1,v,rfl,fun h=>by simp at h,h2,h3⟩)⟩
theorem q_callV {f:FuncId} {fn:Func} {xs:Array Operand} {ats:Array TypeId} {args:List Value} {v:Value} (hf:P.funcs[f]?=some fn) (hb:fn.body.isSome=true) (hn:(fn.name == "runtime.NumGoroutine")=false) (hx:evalsE env xs.toList=some args)
 (hc:∀ w,St S w0 L w→Calls P f args.toArray w (fun e w'=>e=.returned v∧Kept [] w w')) :
 QT P n S w0 { dst:=some d,op:=.call { callee:=.value (.func f),args:=xs,argTypes:=ats },type:=ty,pos,after:=af,guard:=g } env L (.val v) :=
 q_call (s:=.val v) hf hb hn hx fun w H=>(hc w H).mono fun e w' ⟨h1,h2⟩=>⟨v,h1,rfl,(St.refl w).keep h2⟩
theorem l_call {f:FuncId} {fn:Func} {xs:Array Operand} {ats:Array TypeId} {args:List Value} {F:Value→List Res→Prop} (hf:P.funcs[f]?=some fn) (hb:fn.body.isSome=true) (hn:(fn.name == "runtime.NumGoroutine")=false) (hx:evalsE env xs.toList=some args)
 (hc:∀ w,St S w0 L w→Calls P f args.toArray w (fun e w'=>∃ v L',e=.returned v∧F v L'∧St S w0 L' w')) (hd:dstOk n (some d)=true) (h:∀ v L',F v L'→VL P n S w0 ops Q rest ((d,v)::env) L') :
 VL P n S w0 ops Q ({ dst:=some d,op:=.call { callee:=.value (.func f),args:=xs,argTypes:=ats },type:=ty,pos,after:=af,guard:=none }::rest) env L :=
 vl_run trivial fun a w hm H=>opw_call args hf hb hn (hm.evals hx) ((hc w H).mono fun e w' ⟨v,L',h1,h2,h3⟩=>⟨v,h1,(h v L' h2).run _ w' (hm.put hd v) h3⟩)
theorem l_append {t tx e:TypeId} {s x:Operand} {z:Value} {size bytes p m cx:Nat} {v:Value} {xs news:List Value} {A:Option Addr} (k:Nat) (hs:evalE env s=some v) (hx:evalE env x=some (.slice A m cx)) (hk:L[k]?=some (.row e size v p xs)) (hu:P.underlying t=some (.slice e)) (htx:P.underlying tx=some (.slice e))
 (hi:(P.info? e).map (fun i=>(i.zero,i.size,i.bytes))=some (some z,size,bytes)) (hzs:z.cells.size=size) (hb1:bytes≤1099511627776) (hA:Reads S w0 L A news) (hl:news.length=m*size) (h1:∀ u∈news,u.oneCell'=true)
 (hbytes:(p+m)*bytes≤70368744177664) (hmax:p+m≤70368744177664) (hd:dstOk n (some d)=true) (h:∀ B c,p+m≤c→VL P n S w0 ops Q rest ((d,.slice B (p+m) c)::env) (L.set k (.row e size (.slice B (p+m) c) (p+m) (xs++news)))) :
 VL P n S w0 ops Q ({ dst:=some d,op:=.call { callee:=.builtin .append,args:=#[s,x],argTypes:=#[t,tx] },type:=ty,pos,after:=af,guard:=none }::rest) env L :=
 vl_run trivial fun a w hm H=>opw_append H hk hu htx hi hzs hb1 (hm.eval hs) (hm.eval hx) (hA w H) hl h1 hbytes hmax fun w' v' H'=>by
  have hkl:k<L.length:=(List.getElem?_eq_some_iff.1 hk).1
  have hrow:Res.ok w' (.row e size v' (p+m) (xs++news)):=H'.get (k:=k) (by simp [hkl])
  obtain ⟨B,c,rfl,hc,_,_⟩:=Row.slice hrow
  exact (h B c hc).run _ w' (hm.put hd _) H'
theorem VC_nilRow {c:Code} (T:TypeId) (size:Nat) (h:VC P n S w0 c Q env (.row T size (.slice none 0 0) 0 []::L)):VC P n S w0 c Q env L :=
 ⟨fun a w hm H=>h.run a w hm ((H.addNil T size).perm List.perm_append_comm)⟩
theorem th_n {K:Env→List Res→Prop} (h:K env L):QThen K Q .normal env L:=h
theorem th_x {K:Env→List Res→Prop} {i:Nat} (h:Q (.exit i) env L):QThen K Q (.exit i) env L:=h
theorem th_r {K:Env→List Res→Prop} (h:Q .ret env L):QThen K Q .ret env L:=h
theorem th_p {K:Env→List Res→Prop} {ch:List PanicEntry} (h:Q (.panic ch) env L):QThen K Q (.panic ch) env L:=h
theorem bl_n {i:Nat} (h:Q .normal env L):QBlock i Q .normal env L:=h
theorem bl_r {i:Nat} (h:Q .ret env L):QBlock i Q .ret env L:=h
theorem bl_xs {i:Nat} (h:Q .normal env L):QBlock i Q (.exit i) env L:=by show (if i=i then _ else _);rw [if_pos rfl];exact h
theorem bl_xo {i j:Nat} (hne:Nat.beq j i=false) (h:Q (.exit j) env L):QBlock i Q (.exit j) env L:=by show (if j=i then _ else _);rw [if_neg (Nat.ne_of_beq_eq_false hne)];exact h
theorem qn_n (h:Q .normal env L):QN Q .normal env L:=h
theorem VL.keep {l:List Oper} {env':Env} (he:Sub env env') (h:VL P n S w0 ops Q l env' L):VL P n S w0 ops Q l env L:=h.sub he fun _ H=>H
theorem VC.keep {c:Code} {env':Env} (he:Sub env env') (h:VC P n S w0 c Q env' L):VC P n S w0 c Q env L:=VC_sub h he fun _ H=>H
def u32s (l:List UInt32):List Value:=l.map vU32
def u64s (l:List UInt64):List Value:=l.map vU64
def i64s (l:List Int):List Value:=l.map vI
theorem u32s_append (l m:List UInt32):u32s (l++m)=u32s l++u32s m:=by simp [u32s]
theorem u64s_append (l m:List UInt64):u64s (l++m)=u64s l++u64s m:=by simp [u64s]
theorem i64s_append (l m:List Int):i64s (l++m)=i64s l++i64s m:=by simp [i64s]
theorem u32s_length (l:List UInt32):(u32s l).length=l.length:=by simp [u32s]
theorem u64s_length (l:List UInt64):(u64s l).length=l.length:=by simp [u64s]
theorem i64s_length (l:List Int):(i64s l).length=l.length:=by simp [i64s]
theorem bys_at {l:List UInt8} {j:Nat} (h:j<l.length):(bys l)[j]?=some (vU8 (l.getD j 0)):=by simp [bys,h]
theorem u32s_at {l:List UInt32} {j:Nat} (h:j<l.length):(u32s l)[j]?=some (vU32 (l.getD j 0)):=by simp [u32s,h]
theorem i64s_at {l:List Int} {j:Nat} (h:j<l.length):(i64s l)[j]?=some (vI (l.getD j 0)):=by simp [i64s,h]
theorem bys_set (l:List UInt8) (j:Nat) (x:UInt8):(bys l).set j (vU8 x)=bys (l.set j x):=by simp [bys,List.map_set]
theorem u32s_set (l:List UInt32) (j:Nat) (x:UInt32):(u32s l).set j (vU32 x)=u32s (l.set j x):=by simp [u32s,List.map_set]
theorem i64s_set (l:List Int) (j:Nat) (x:Int):(i64s l).set j (vI x)=i64s (l.set j x):=by simp [i64s,List.map_set]
theorem u32s_one (l:List UInt32):∀ v∈u32s l,v.oneCell'=true:=by
 intro v hv;obtain ⟨x,_,rfl⟩:=List.mem_map.1 hv;rfl
theorem u64s_one (l:List UInt64):∀ v∈u64s l,v.oneCell'=true:=by
 intro v hv;obtain ⟨x,_,rfl⟩:=List.mem_map.1 hv;rfl
theorem i64s_one (l:List Int):∀ v∈i64s l,v.oneCell'=true:=by
 intro v hv;obtain ⟨x,_,rfl⟩:=List.mem_map.1 hv;rfl
theorem app_one {c d:List Value} (h:∀ v∈c,v.oneCell'=true) (h':∀ v∈d,v.oneCell'=true):∀ v∈c++d,v.oneCell'=true:=by
 intro v hv
 rcases List.mem_append.1 hv with h1 | h1
 ·exact h v h1
 ·exact h' v h1
theorem l_stB {t:TypeId} {x y:Operand} {b j:Nat} {T:TypeId} {l:List UInt8} {v:UInt8} (k:Nat) (hx:evalE env x=some (vP b j)) (hy:evalE env y=some (vU8 v)) (hk:L[k]?=some (.blk b T (bys l))) (hi:(P.info? t).map (·.size)=some 1) (hl:j<l.length)
 (h:VL P n S w0 ops Q rest env (L.set k (.blk b T (bys (l.set j v))))):VL P n S w0 ops Q ({ dst:=none,op:=.store t x y,type:=ty,pos,after:=af,guard:=none }::rest) env L :=
 l_store1 k hx hy hk hi rfl (by rw [bys_length];exact hl) (by rw [bys_set];exact h)
theorem l_stU32 {t:TypeId} {x y:Operand} {b j:Nat} {T:TypeId} {l:List UInt32} {v:UInt32} (k:Nat) (hx:evalE env x=some (vP b j)) (hy:evalE env y=some (vU32 v)) (hk:L[k]?=some (.blk b T (u32s l))) (hi:(P.info? t).map (·.size)=some 1) (hl:j<l.length)
 (h:VL P n S w0 ops Q rest env (L.set k (.blk b T (u32s (l.set j v))))):VL P n S w0 ops Q ({ dst:=none,op:=.store t x y,type:=ty,pos,after:=af,guard:=none }::rest) env L :=
 l_store1 k hx hy hk hi rfl (by rw [u32s_length];exact hl) (by rw [u32s_set];exact h)
theorem l_stI {t:TypeId} {x y:Operand} {b j:Nat} {T:TypeId} {l:List Int} {v:Int} (k:Nat) (hx:evalE env x=some (vP b j)) (hy:evalE env y=some (vI v)) (hk:L[k]?=some (.blk b T (i64s l))) (hi:(P.info? t).map (·.size)=some 1) (hl:j<l.length)
 (h:VL P n S w0 ops Q rest env (L.set k (.blk b T (i64s (l.set j v))))):VL P n S w0 ops Q ({ dst:=none,op:=.store t x y,type:=ty,pos,after:=af,guard:=none }::rest) env L :=
 l_store1 k hx hy hk hi rfl (by rw [i64s_length];exact hl) (by rw [i64s_set];exact h)
theorem run_loadVarA {t:TypeId} {dd:TypeDesc} {ad:Addr} {c:List Value} {w:World} (hu:P.underlying t=some dd) (hd:(match dd with | .struct _ | .array _ _=>true | _=>false)=true) (hi:(P.info? t).map (·.size)=some c.length) (hc:SlAt w (some ad) c):(loadVar t ad).run P w=.ok (.agg c.toArray) w:=by
 have hagg:(isAgg t).run P w=.ok true w:=by
  unfold isAgg
  rw [Sem.run_bind,run_underlying hu w]
  cases dd<;>simp_all
 have hl:=run_loadCells_list (P:=P) w ad c (fun j v hv=>hc.get hv)
 cases hq:P.info? t with
 | none=>simp [hq] at hi
 | some i =>
  have hs:i.size=c.length:=by simpa [hq] using hi
  simp [loadVar,hagg,sizeOf,typeInfo,hq,hs,hl]
theorem resC1 {fn:Func} {s:Tmp} {t:TypeId} {dd:TypeDesc} {b sz:Nat} {T:TypeId} {c:List Value} (k:Nat) (h:fn.results=#[.cell s t]) (hu:P.underlying t=some dd) (hd:(match dd with | .struct _ | .array _ _=>true | _=>false)=true) (hs:look s env=some (vP b 0)) (hk:L[k]?=some (.blk b T c)) (hi:(P.info? t).map (·.size)=some sz) (hl:c.length=sz) :
 ResE P n S w0 fn env L (.agg c.toArray):=fun a w hm H=>by
 have h1:=hm.get s _ hs
 have h2:=run_loadVarA hu hd (by rw [hi,hl]) (H.blk hk).sl0
 simp [results,h,Array.getD_eq_getD_getElem?,h1,asAddr,h2]
theorem l_copy {t tx e:TypeId} {s x:Operand} {b o dl dc m cx:Nat} {T:TypeId} {c vs:List Value} {A:Option Addr} (k:Nat) (hs:evalE env s=some (.slice (some ⟨b,o,none⟩) dl dc)) (hx:evalE env x=some (.slice A m cx)) (hk:L[k]?=some (.blk b T c)) (hu:P.underlying t=some (.slice e)) (htx:P.underlying tx=some (.slice e))
 (hi:(P.info? e).map (·.size)=some 1) (hA:Reads S w0 L A vs) (hl:vs.length=m) (h1:∀ u∈vs,u.oneCell'=true) (ho:o+min m dl≤c.length) (hd:dstOk n (some d)=true)
 (h:VL P n S w0 ops Q rest ((d,vN (min m dl))::env) (L.set k (.blk b T (splice c o (vs.take (min m dl)))))) :
 VL P n S w0 ops Q ({ dst:=some d,op:=.call { callee:=.builtin .copy,args:=#[s,x],argTypes:=#[t,tx] },type:=ty,pos,after:=af,guard:=none }::rest) env L :=
 vl_run trivial fun a w hm H=>by
  have hb:=H.blk hk
  have hr:=hA w H
  cases hq:P.info? e with
  | none=>simp [hq] at hi
  | some i =>
   have hsz:i.size=1:=by simpa [hq] using hi
   have hc:(Builtin.firstCells 1 (min m dl) (.slice A m cx)).run P w=.ok (vs.take (min m dl)).toArray w:=by
    cases A with
    | none =>
     have:vs=[]:=by
      cases vs with
      | nil=>rfl
      | cons v r=>obtain ⟨a',e',_⟩:=hr 0 v rfl;cases e'
     subst this
     have:m=0:=by simpa using hl.symm
     subst this
     simp [Builtin.firstCells]
    | some ad =>
     have hlo:=run_loadCells_list (P:=P) w ad (vs.take (min m dl)) (fun j v hv=>(hr.take _).get hv)
     have hlen:(vs.take (min m dl)).length=min m dl:=by rw [List.length_take];omega
     rw [hlen] at hlo
     simpa [Builtin.firstCells] using hlo
   have hlen:(vs.take (min m dl)).length=min m dl:=by rw [List.length_take];omega
   have hst:=run_storeCells_blk P hb o (vs.take (min m dl)) (by rw [hlen];exact ho) (fun u hu=>h1 u (List.mem_of_mem_take hu))
   refine opw_val (v:=vN (min m dl)) (w':=w.setRow b (splice c o (vs.take (min m dl))).toArray) ?_ ?_
   ·simp [execOp,resolve,invoke,builtin,Builtin.copy_,run_underlying hu,hm.eval hs,hm.eval hx,Builtin.lenOf,sizeOf,typeInfo,hq,hsz,hc,hst,goInt,Nat.min_def]
    have e2:(if m≤dl then m else dl)=min m dl:=rfl
    simp only [← Nat.min_def] at *
    simp [hc,hst]
   ·exact h.run _ _ (hm.put hd _) (H.change hk (grownBy_setRow w b _) (setRow_blk hb (length_splice _ _ _ (by rw [hlen];exact ho))) (fun b' hb'=>.inl hb'))
theorem l_boxA {e:TypeId} {x:Operand} {c:List Value} (hx:evalE env x=some (.agg c.toArray)) (hd:dstOk n (some d)=true) (h:∀ b,VL P n S w0 ops Q rest ((d,vP b 0)::env) (.blk b e c::L)) :
 VL P n S w0 ops Q ({ dst:=some d,op:=.box e x,type:=ty,pos,after:=af,guard:=none }::rest) env L:=l_box hx rfl hd h
theorem l_box1 {e:TypeId} {x:Operand} {v:Value} (h1:v.oneCell'=true) (hx:evalE env x=some v) (hd:dstOk n (some d)=true) (h:∀ b,VL P n S w0 ops Q rest ((d,vP b 0)::env) (.blk b e [v]::L)) :
 VL P n S w0 ops Q ({ dst:=some d,op:=.box e x,type:=ty,pos,after:=af,guard:=none }::rest) env L:=l_box hx (by cases v<;>first | rfl | (simp [Value.oneCell'] at h1;done)) hd h
theorem l_allocA {e:TypeId} {c:List Value} (hi:(P.info? e).map (·.zero)=some (some (.agg c.toArray))) (hd:dstOk n (some d)=true) (h:∀ b,VL P n S w0 ops Q rest ((d,vP b 0)::env) (.blk b e c::L)) :
 VL P n S w0 ops Q ({ dst:=some d,op:=.alloc e,type:=ty,pos,after:=af,guard:=none }::rest) env L:=l_alloc hi rfl hd h
theorem l_alloc1 {e:TypeId} {z:Value} (hi:(P.info? e).map (·.zero)=some (some z)) (h1:z.oneCell'=true) (hd:dstOk n (some d)=true) (h:∀ b,VL P n S w0 ops Q rest ((d,vP b 0)::env) (.blk b e [z]::L)) :
 VL P n S w0 ops Q ({ dst:=some d,op:=.alloc e,type:=ty,pos,after:=af,guard:=none }::rest) env L:=l_alloc hi (by cases z<;>first | rfl | (simp [Value.oneCell'] at h1;done)) hd h
theorem l_storeA {t:TypeId} {x y:Operand} {b sz:Nat} {T:TypeId} {c vs:List Value} (k:Nat) (hx:evalE env x=some (vP b 0)) (hy:evalE env y=some (.agg vs.toArray)) (hk:L[k]?=some (.blk b T c)) (hi:(P.info? t).map (·.size)=some sz) (hs:vs.length=sz) (h1:∀ u∈vs,u.oneCell'=true) (hl:c.length=sz)
 (h:VL P n S w0 ops Q rest env (L.set k (.blk b T vs))):VL P n S w0 ops Q ({ dst:=none,op:=.store t x y,type:=ty,pos,after:=af,guard:=none }::rest) env L :=
 l_storeAll k hx hy hk hi rfl hs h1 hl h
theorem one_all {c:List Value} (h:(c.all fun v=>v.oneCell')=true):∀ v∈c,v.oneCell'=true:=fun v hv=>List.all_eq_true.1 h v hv
theorem qv_v {F:Env→Prop} {op:Op} {f:Value} (hq:QT P n S w0 { dst:=some d,op,type:=ty,pos,after:=af,guard:=none } env L (.val f)) (h:quietsV P n S w0 ops L F rest ((d,f)::env)) :
 quietsV P n S w0 ops L F ({ dst:=some d,op,type:=ty,pos,after:=af,guard:=none }::rest) env:=⟨f,.inl ⟨trivial,hq⟩,h⟩
theorem qv_vg {F:Env→Prop} {op:Op} {f:Value} (hg:Met ops env g) (hq:QT P n S w0 { dst:=some d,op,type:=ty,pos,after:=af,guard:=g } env L (.val f)) (h:quietsV P n S w0 ops L F rest ((d,f)::env)) :
 quietsV P n S w0 ops L F ({ dst:=some d,op,type:=ty,pos,after:=af,guard:=g }::rest) env:=⟨f,.inl ⟨hg,hq⟩,h⟩
theorem qv_skip {F:Env→Prop} {op:Op} (hu:Unmet ops env g) (h:quietsV P n S w0 ops L F rest ((d,undef)::env)) :
 quietsV P n S w0 ops L F ({ dst:=some d,op,type:=ty,pos,after:=af,guard:=g }::rest) env:=⟨undef,.inr ⟨hu,rfl⟩,h⟩
theorem qv_end {F:Env→Prop} (h:F env):quietsV P n S w0 ops L F [] env:=h
section
variable {F : ((Nat → Value) → Env) → Ak → Prop} {k : Nat} {C : List Nat} {Cs : List (List Nat)} {E : (Nat → Value) → Env} {A : Ak} {op : Op}
theorem qm_v {f:Value} (hq:∀ xs:Nat→Value,factsA C xs A→QT P n S w0 { dst:=some d,op,type:=ty,pos,after:=af,guard:=none } (E xs) (resA C xs A++L) (.val f))
 (h:quietsM P n S w0 ops L F (k+1) rest Cs (fun xs=>(d,f)::E xs) A):quietsM P n S w0 ops L F k ({ dst:=some d,op,type:=ty,pos,after:=af,guard:=none }::rest) (C::Cs) E A :=
 ⟨.val [] fun _=>f,rfl,fun xs hx=>.inl ⟨trivial,hq xs hx⟩,by rw [show A++(SpX.val [] fun _=>f).ak k=A from List.append_nil A];exact h⟩
theorem qm_x (D:List Nat) (f:(Nat→Value)→Value) (hD:(D.all fun j=>C.contains j)=true) (hg:∀ xs:Nat→Value,Met ops (E xs) g) (hq:∀ xs:Nat→Value,factsA C xs A→QT P n S w0 { dst:=some d,op,type:=ty,pos,after:=af,guard:=g } (E xs) (resA C xs A++L) (.val (f (mask D xs))))
 (h:quietsM P n S w0 ops L F (k+1) rest Cs (fun xs=>(d,f (mask D xs))::E xs) A):quietsM P n S w0 ops L F k ({ dst:=some d,op,type:=ty,pos,after:=af,guard:=g }::rest) (C::Cs) E A :=
 ⟨.val D f,hD,fun xs hx=>.inl ⟨hg xs,hq xs hx⟩,by rw [show A++(SpX.val D f).ak k=A from List.append_nil A];exact h⟩
theorem qm_a {Fv:Value→Prop} {N:Value→List Res} (hq:∀ xs:Nat→Value,factsA C xs A→QT P n S w0 { dst:=some d,op,type:=ty,pos,after:=af,guard:=none } (E xs) (resA C xs A++L) (.any Fv N))
 (h:quietsM P n S w0 ops L F (k+1) rest Cs (fun xs=>(d,xs k)::E xs) (A++[(k,[],fun _=>Fv,fun _=>N)])):quietsM P n S w0 ops L F k ({ dst:=some d,op,type:=ty,pos,after:=af,guard:=none }::rest) (C::Cs) E A :=
 ⟨.any [] (fun _=>Fv) (fun _=>N),rfl,fun xs hx=>.inl ⟨trivial,hq xs hx⟩,h⟩
end
def tupAt (v:Value) (i:Nat):Value:=match v with | .tuple vs=>(vs[i]?).getD undef | _=>undef
theorem q_extX {x:Operand} {i:Nat} {v:Value} (hx:evalE env x=some v) (hv:∃ vs u,v=.tuple vs∧vs[i]?=some u):QT P n S w0 { dst:=some d,op:=.extract x i,type:=ty,pos,after:=af,guard:=g } env L (.val (tupAt v i)):=by
 obtain ⟨vs,u,rfl,hu⟩:=hv
 have:tupAt (.tuple vs) i=u:=by simp [tupAt,hu]
 rw [this]
 exact q_ext hx hu
theorem qm_end {F:((Nat→Value)→Env)→Ak→Prop} {k:Nat} {Cs:List (List Nat)} {E:(Nat→Value)→Env} {A:Ak} (h:F E A):quietsM P n S w0 ops L F k [] Cs E A:=h
def isSl (m:Nat) (v:Value):Prop:=∃ A c,v=.slice A m c∧m≤c∧c≤maxLen
theorem q_callR {f:FuncId} {fn:Func} {xs:Array Operand} {ats:Array TypeId} {args:List Value} {T:TypeId} {size m:Nat} {cs:List Value} (hf:P.funcs[f]?=some fn) (hb:fn.body.isSome=true) (hn:(fn.name == "runtime.NumGoroutine")=false) (hx:evalsE env xs.toList=some args)
 (hc:∀ w,St S w0 L w→Calls P f args.toArray w (fun e w'=>∃ v,e=.returned v∧St [] w [.row T size v m cs] w')) :
 QT P n S w0 { dst:=some d,op:=.call { callee:=.value (.func f),args:=xs,argTypes:=ats },type:=ty,pos,after:=af,guard:=g } env L (.any (isSl m) (nRow T size m cs)) :=
 q_call (s:=.any (isSl m) (nRow T size m cs)) hf hb hn hx fun w H=>(hc w H).mono fun e w' ⟨v,h1,h2⟩=>⟨v,h1,by
  obtain ⟨A,c,h3,h4,h5,_⟩:=Row.slice (h2.get (k:=0) rfl)
  exact ⟨A,c,h3,h4,h5⟩,h2⟩
theorem l_callR {f:FuncId} {fn:Func} {xs:Array Operand} {ats:Array TypeId} {args:List Value} {T:TypeId} {size m:Nat} {cs:List Value} (hf:P.funcs[f]?=some fn) (hb:fn.body.isSome=true) (hn:(fn.name == "runtime.NumGoroutine")=false) (hx:evalsE env xs.toList=some args)
 (hc:∀ w,St S w0 L w→Calls P f args.toArray w (fun e w'=>∃ v,e=.returned v∧St [] w [.row T size v m cs] w')) (hd:dstOk n (some d)=true)
 (h:∀ A c,m≤c→c≤maxLen→VL P n S w0 ops Q rest ((d,.slice A m c)::env) (.row T size (.slice A m c) m cs::L)) :
 VL P n S w0 ops Q ({ dst:=some d,op:=.call { callee:=.value (.func f),args:=xs,argTypes:=ats },type:=ty,pos,after:=af,guard:=none }::rest) env L :=
 vl_q (q_callR hf hb hn hx hc) trivial hd (by rintro v ⟨A,c,rfl,h1,h2⟩;exact h A c h1 h2)
theorem q_eqStr {T T':TypeId} {x y:Operand} {l m:List UInt8} (hT:P.underlying T=some .string) (hx:evalE env x=some (.string ⟨l.toArray⟩)) (hy:evalE env y=some (.string ⟨m.toArray⟩)) :
 QT P n S w0 { dst:=some d,op:=.binOp .eql T x y T',type:=ty,pos,after:=af,guard:=g } env L (.val (.bool (decide (l=m)))) :=
 q_bin hx hy fun w=>by
  simp [eqGuard,binOp,Op.stringOp]
  rw [Bool.eq_iff_iff]
  simp
theorem row_sl {S:List Nat} {w0 w:World} {L:List Res} {T:TypeId} {size m:Nat} {v:Value} {cs:List Value} (H:St S w0 L w) (k:Nat) (hk:L[k]?=some (.row T size v m cs)):∃ A c,v=.slice A m c∧m≤c∧c≤maxLen∧SlAt w A cs:=Row.slice (H.get hk)
theorem l_callE {f:FuncId} {fn:Func} {xs:Array Operand} {ats:Array TypeId} {args:List Value} {v:Value} {L':List Res} (hf:P.funcs[f]?=some fn) (hb:fn.body.isSome=true) (hn:(fn.name == "runtime.NumGoroutine")=false) (hx:evalsE env xs.toList=some args)
 (hc:∀ w,St S w0 L w→Calls P f args.toArray w (fun e w'=>e=.returned v∧St S w0 L' w')) (hd:dstOk n (some d)=true) (h:VL P n S w0 ops Q rest ((d,v)::env) L') :
 VL P n S w0 ops Q ({ dst:=some d,op:=.call { callee:=.value (.func f),args:=xs,argTypes:=ats },type:=ty,pos,after:=af,guard:=none }::rest) env L :=
 l_call (F:=fun u M=>u=v∧M=L') hf hb hn hx (fun w H=>(hc w H).mono fun e w' h=>⟨v,L',h.1,⟨rfl,rfl⟩,h.2⟩) hd (by rintro u M ⟨rfl,rfl⟩;exact h)
def ptrOf (A:Option Addr) (m:Nat):Value:=.pointer (some ((A.getD ⟨0,0,none⟩).add m))
theorem SlAt.some {w:World} {A:Option Addr} {vs:List Value} (h:SlAt w A vs) (hl:0<vs.length):∃ ad,A=some ad:=by
 obtain ⟨a,e,_⟩:=h 0 _ (List.getElem?_eq_getElem hl)
 exact ⟨a,e⟩
theorem q_idxRd {t e:TypeId} {x y:Operand} {k:IntKind} {len cap m:Nat} {A:Option Addr} {vs:List Value} (hu:P.underlying t=some (.slice e)) (hi:(P.info? e).map (·.size)=some 1) (hx:evalE env x=some (.slice A len cap)) (hy:evalE env y=some (.int k (m:Int))) (hm:m<len) (hr:Reads S w0 L A vs) (hl:m<vs.length) :
 QT P n S w0 { dst:=some d,op:=.indexAddr t x y,type:=ty,pos,after:=af,guard:=g } env L (.val (ptrOf A m)) :=
 ⟨fun a w hmo H=>by
  obtain ⟨ad,rfl⟩:=(hr w H).some (by omega)
  exact (q_idxS1 hu hi hx hy hm).run a w hmo H⟩
theorem q_loadRd {t:TypeId} {dd:TypeDesc} {x:Operand} {A:Option Addr} {m:Nat} {vs:List Value} {v:Value} (hu:P.underlying t=some dd) (hd:(match dd with | .struct _ | .array _ _=>true | _=>false)=false) (hx:evalE env x=some (ptrOf A m)) (hr:Reads S w0 L A vs) (hc:vs[m]?=some v) :
 QT P n S w0 { dst:=some d,op:=.load t x,type:=ty,pos,after:=af,guard:=g } env L (.val v) :=
 ⟨fun a w hmo H=>by
  have hml:=(List.getElem?_eq_some_iff.1 hc).1
  obtain ⟨ad,rfl⟩:=(hr w H).some (by omega)
  exact (q_loadR hu hd hx hr hc).run a w hmo H⟩
theorem VC_rowBlk {c:Code} {T:TypeId} {size m:Nat} {A:Option Addr} {cap:Nat} {xs:List Value} (hm:0<m) (h:∀ b more,A=some ⟨b,0,none⟩→VC P n S w0 c Q env (.blk b T (xs++more)::L)):VC P n S w0 c Q env (.row T size (.slice A m cap) m xs::L) :=
 ⟨fun a w hmo H=>by
  obtain ⟨hl,hh⟩:=H.get (k:=0) rfl
  rcases hh with ⟨e,h0⟩ | ⟨b,cap',more,e,h1,h2,h3,h4⟩
  ·omega
  ·cases e
   exact (h b more rfl).run a w hmo (H.as (k:=0) (r':=.blk b T (xs++more)) rfl h4 rfl)⟩
theorem q_litA {t e:TypeId} {m bytes:Nat} {pr:Array (Nat × Operand)} {z:Value} {vs cs:List Value} (hu:P.underlying t=some (.slice e)) (hi:(P.info? e).map (fun i=>(i.zero,i.size,i.bytes))=some (some z,1,bytes)) (hsm:m≤16777216) (hz:z.oneCell'=true)
 (hp:evalsE env (pr.toList.map (·.2))=some vs) (hm:vs.length=m) (hi2:pr.toList.map (·.1)=List.range m) (h1:∀ v∈vs,v.oneCell'=true) (hcs:vs=cs) :
 QT P n S w0 { dst:=some d,op:=.buildSlice t m pr,type:=ty,pos,after:=af,guard:=g } env L (.any (fun u=>∃ b,u=.slice (some ⟨b,0,none⟩) m m) (nRow e 1 m cs)):=by
 subst hcs
 have hfill:∀ (vs:List Value) (k:Nat) (c:List Value),k+vs.length≤c.length→fillL c ((List.range' k vs.length).zip vs)=c.take k++vs++c.drop (k+vs.length):=by
  intro vs
  induction vs with
  | nil=>intro k c _;simp [fillL]
  | cons v vs ih =>
   intro k c hk
   simp only [List.length_cons] at hk
   show fillL c ((List.range' k (vs.length+1)).zip (v::vs))=_
   rw [List.range'_succ,List.zip_cons_cons,fillL,ih (k+1) (c.set k v) (by simp;omega)]
   have e1:(c.set k v).take (k+1)=c.take k++[v]:=by
    rw [List.take_succ_eq_append_getElem (by simp;omega),List.take_set_of_le (by omega)]
    simp
   have e2:(c.set k v).drop (k+1+vs.length)=c.drop (k+(vs.length+1)):=by
    rw [List.drop_set_of_lt (by omega)]
    congr 1
    omega
   rw [e1,e2]
   simp
 have hps:((List.range m).zip vs).map (·.2)=vs:=by rw [List.map_snd_zip];simp [hm]
 have hps1:((List.range m).zip vs).map (·.1)=List.range m:=by rw [List.map_fst_zip];simp [hm]
 have hfin:=hfill vs 0 (List.replicate m z) (by simp [hm])
 rw [hm,← List.range_eq_range'] at hfin
 have hq:=q_lit (n:=n) (S:=S) (w0:=w0) (L:=L) (d:=d) (ty:=ty) (pos:=pos) (af:=af) (g:=g) (ps:=(List.range m).zip vs) hu hi hsm hz (by rw [hps];exact hp) (by rw [hps1];exact hi2) (by
  intro p hp'
  have h2:=List.of_mem_zip hp'
  exact ⟨h1 p.2 h2.2,List.mem_range.1 h2.1⟩)
 rw [hfin] at hq
 simpa using hq
theorem l_litA {t e:TypeId} {m bytes:Nat} {pr:Array (Nat × Operand)} {z:Value} {vs cs:List Value} (hu:P.underlying t=some (.slice e)) (hi:(P.info? e).map (fun i=>(i.zero,i.size,i.bytes))=some (some z,1,bytes)) (hsm:m≤16777216) (hz:z.oneCell'=true)
 (hp:evalsE env (pr.toList.map (·.2))=some vs) (hm:vs.length=m) (hi2:pr.toList.map (·.1)=List.range m) (h1:∀ v∈vs,v.oneCell'=true) (hcs:vs=cs) (hd:dstOk n (some d)=true)
 (h:∀ b,VL P n S w0 ops Q rest ((d,.slice (some ⟨b,0,none⟩) m m)::env) (.row e 1 (.slice (some ⟨b,0,none⟩) m m) m cs::L)) :
 VL P n S w0 ops Q ({ dst:=some d,op:=.buildSlice t m pr,type:=ty,pos,after:=af,guard:=none }::rest) env L :=
 vl_q (q_litA hu hi hsm hz hp hm hi2 h1 hcs) trivial hd (by rintro v ⟨b,rfl⟩;exact h b)
theorem tupAt_0 (a b:Value):tupAt (.tuple #[a,b]) 0=a:=rfl
theorem tupAt_1 (a b:Value):tupAt (.tuple #[a,b]) 1=b:=rfl
def isSlT (m:Nat) (u v:Value):Prop:=∃ A c,v=.tuple #[.slice A m c,u]∧m≤c∧c≤maxLen
def nRowT (e:TypeId) (size m:Nat) (xs:List Value) (v:Value):List Res:=[.row e size (tupAt v 0) m xs]
theorem q_callT {f:FuncId} {fn:Func} {xs:Array Operand} {ats:Array TypeId} {args:List Value} {T:TypeId} {size m:Nat} {cs:List Value} {u:Value} (hf:P.funcs[f]?=some fn) (hb:fn.body.isSome=true) (hn:(fn.name == "runtime.NumGoroutine")=false) (hx:evalsE env xs.toList=some args)
 (hc:∀ w,St S w0 L w→Calls P f args.toArray w (fun e w'=>∃ v,e=.returned (.tuple #[v,u])∧St [] w [.row T size v m cs] w')) :
 QT P n S w0 { dst:=some d,op:=.call { callee:=.value (.func f),args:=xs,argTypes:=ats },type:=ty,pos,after:=af,guard:=g } env L (.any (isSlT m u) (nRowT T size m cs)) :=
 q_call (s:=.any (isSlT m u) (nRowT T size m cs)) hf hb hn hx fun w H=>(hc w H).mono fun e w' ⟨v,h1,h2⟩=>⟨.tuple #[v,u],h1,by
  have hrow:Res.ok w' (.row T size v m cs):=h2.get (k:=0) rfl
  obtain ⟨A,c,h3,h4,h5,_⟩:=Row.slice hrow
  exact ⟨A,c,by rw [h3],h4,h5⟩,h2⟩
theorem l_callT {f:FuncId} {fn:Func} {xs:Array Operand} {ats:Array TypeId} {args:List Value} {T:TypeId} {size m:Nat} {cs:List Value} {u:Value} (hf:P.funcs[f]?=some fn) (hb:fn.body.isSome=true) (hn:(fn.name == "runtime.NumGoroutine")=false) (hx:evalsE env xs.toList=some args)
 (hc:∀ w,St S w0 L w→Calls P f args.toArray w (fun e w'=>∃ v,e=.returned (.tuple #[v,u])∧St [] w [.row T size v m cs] w')) (hd:dstOk n (some d)=true)
 (h:∀ A c,m≤c→c≤maxLen→VL P n S w0 ops Q rest ((d,.tuple #[.slice A m c,u])::env) (.row T size (.slice A m c) m cs::L)) :
 VL P n S w0 ops Q ({ dst:=some d,op:=.call { callee:=.value (.func f),args:=xs,argTypes:=ats },type:=ty,pos,after:=af,guard:=none }::rest) env L :=
 vl_q (q_callT hf hb hn hx hc) trivial hd (by rintro v ⟨A,c,rfl,h1,h2⟩;exact h A c h1 h2)
theorem SlAt.adv {w:World} {A:Option Addr} {vs:List Value} (h:SlAt w A vs) {l m sz:Nat} (hm:vs.length≤m*sz):SlAt w (PBYtfpdnpppcoomnaaGreat.adv A l m sz) (vs.drop (l*sz)):=h.dropIf (fun e=>by subst e;exact hm)
theorem endRow {T:TypeId} {size m:Nat} {cs:List Value} (e:Ending) (w':World) (L':List Res) (h:∃ v M,e=.returned v∧L'=.row T size v m cs::M) (H:St S w0 L' w'):∃ v,e=.returned v∧St S w0 [.row T size v m cs] w':=by
 obtain ⟨v,M,rfl,rfl⟩:=h
 exact ⟨v,rfl,H.sub (by simp)⟩
theorem q_true {o:Oper} {b:Bool} (hq:QT P n S w0 o env L (.val (.bool b))) (h:b=true):QT P n S w0 o env L (.val (.bool true)):=h ▸ hq
theorem q_false {o:Oper} {b:Bool} (hq:QT P n S w0 o env L (.val (.bool b))) (h:b=false):QT P n S w0 o env L (.val (.bool false)):=h ▸ hq
theorem q_as {o:Oper} {u v:Value} (hq:QT P n S w0 o env L (.val u)) (h:u=v):QT P n S w0 o env L (.val v):=h ▸ hq
theorem q_xorUn_u32 {T:TypeId} {x:Operand} {p:UInt32} (hx:evalE env x=some (vU32 p)):QT P n S w0 { dst:=some d,op:=.unOp .xor T x,type:=ty,pos,after:=af,guard:=g } env L (.val (vU32 (4294967295 ^^^ p))) :=
 q_of rfl fun a w hm H=>by
  have h:(BitVec.ofInt IntKind.u32.bits IntKind.u32.max ^^^ BitVec.ofInt IntKind.u32.bits (p.toNat:Int)).toNat=((4294967295:UInt32) ^^^ p).toNat:=by
   show (BitVec.ofInt 32 4294967295 ^^^ BitVec.ofInt 32 (p.toNat:Int)).toNat=_
   rw [bv_u32]
   rfl
  have h2:=wrap_self_u32 ((4294967295:UInt32) ^^^ p)
  rw [← h] at h2
  have e:(execOp a.eval { dst:=some d,op:=.unOp .xor T x,type:=ty,pos,after:=af,guard:=g }).run P w=.ok (.value (.int .u32 (IntKind.u32.wrap ((BitVec.ofInt IntKind.u32.bits IntKind.u32.max ^^^ BitVec.ofInt IntKind.u32.bits (p.toNat:Int)).toNat:Int)))) w:=by
   simp [execOp,hm.eval hx,Op.unary,Op.intBits,IntKind.signed]
  rw [e,h2,h]
theorem l_callP {f:FuncId} {fn:Func} {xs:Array Operand} {ats:Array TypeId} {args:List Value} {T:TypeId} {cs:List Value} (hf:P.funcs[f]?=some fn) (hb:fn.body.isSome=true) (hn:(fn.name == "runtime.NumGoroutine")=false) (hx:evalsE env xs.toList=some args)
 (hc:∀ w,St S w0 L w→Calls P f args.toArray w (fun e w'=>∃ b,e=.returned (vP b 0)∧St [] w [.blk b T cs] w')) (hd:dstOk n (some d)=true)
 (h:∀ b,VL P n S w0 ops Q rest ((d,vP b 0)::env) (.blk b T cs::L)) :
 VL P n S w0 ops Q ({ dst:=some d,op:=.call { callee:=.value (.func f),args:=xs,argTypes:=ats },type:=ty,pos,after:=af,guard:=none }::rest) env L :=
 vl_q (q_call (s:=.any (fun u=>∃ b,u=vP b 0) (nBlk T cs)) hf hb hn hx fun w H=>(hc w H).mono fun e w' ⟨b,h1,h2⟩=>⟨vP b 0,h1,⟨b,rfl⟩,h2⟩) trivial hd (by rintro v ⟨b,rfl⟩;exact h b)
theorem q_slcSb {t e:TypeId} {x:Operand} {lo hi mx:Option Operand} {sz len cap l h m b o r:Nat} (hu:P.underlying t=some (.slice e)) (hi':(P.info? e).map (·.size)=some sz) (hx:evalE env x=some (.slice (some ⟨b,o,none⟩) len cap)) (hlo:BndE env lo 0 l) (hhi:BndE env hi len h) (hmx:BndE env mx cap m) (hmh:mx=none∨hi.isSome=true)
 (h1:l≤h) (h2:h≤m) (h3:m≤cap) (h4:l<m) (hr:o+l*sz=r):QT P n S w0 { dst:=some d,op:=.slice t x lo hi mx,type:=ty,pos,after:=af,guard:=g } env L (.val (.slice (some ⟨b,r,none⟩) (h-l) (m-l))):=by
 have:=q_slcS (g:=g) (d:=d) (ty:=ty) (pos:=pos) (af:=af) (n:=n) (S:=S) (w0:=w0) (L:=L) hu hi' hx hlo hhi hmx hmh h1 h2 h3
 subst hr
 rw [adv,if_neg (by omega)] at this
 simpa [Addr.add_lit] using this
theorem VC_toRow {c:Code} {T:TypeId} {b m:Nat} {cs:List Value} (hl:cs.length=m) (hm:m≤maxLen) (h:VC P n S w0 c Q env (.row T 1 (.slice (some ⟨b,0,none⟩) m m) m cs::L)):VC P n S w0 c Q env (.blk b T cs::L) :=
 ⟨fun a w hmo H=>h.run a w hmo (H.toRow (k:=0) (size:=1) (n:=m) rfl (by omega) hm)⟩
theorem q_s2a {arr e:TypeId} {x:Operand} {len cap m:Nat} {A:Option Addr} (hu:P.underlying arr=some (.array m e)) (hx:evalE env x=some (.slice A len cap)) (hm:m≤len) :
 QT P n S w0 { dst:=some d,op:=.sliceToArrayPointer arr x,type:=ty,pos,after:=af,guard:=g } env L (.val (.pointer A)) :=
 q_of rfl fun a w hmo H=>by
  have h:=run_arrayAt (P:=P) w arr e m A len cap hu hm
  simp [execOp,hmo.eval hx,h]
theorem resC2 {fn:Func} {s u:Tmp} {t:TypeId} {dd:TypeDesc} {b sz:Nat} {T:TypeId} {c:List Value} {v:Value} (k:Nat) (h:fn.results=#[.cell s t,.tmp u]) (hu:P.underlying t=some dd) (hd:(match dd with | .struct _ | .array _ _=>true | _=>false)=true) (hs:look s env=some (vP b 0)) (hk:L[k]?=some (.blk b T c)) (hi:(P.info? t).map (·.size)=some sz) (hl:c.length=sz) (hv:look u env=some v) :
 ResE P n S w0 fn env L (.tuple #[.agg c.toArray,v]):=fun a w hm H=>by
 have h1:=hm.get s _ hs
 have h3:=hm.get u _ hv
 have h2:=run_loadVarA hu hd (by rw [hi,hl]) (H.blk hk).sl0
 simp [results,h,Array.getD_eq_getD_getElem?,h1,h3,asAddr,h2]
theorem repB (m:Nat):List.replicate m (Value.int .u8 0)=bys (List.replicate m 0):=by simp [bys]
theorem l_makeZ {t e:TypeId} {l c:Operand} {z:Value} {bytes m:Nat} {kl kc:IntKind} {cs:List Value} (hu:P.underlying t=some (.slice e)) (hi:(P.info? e).map (fun i=>(i.zero,i.size,i.bytes))=some (some z,1,bytes)) (hz:z.oneCell'=true)
 (hl:evalE env l=some (.int kl (m:Int))) (hc:evalE env c=some (.int kc (m:Int))) (hb:bytes*m≤281474976710656) (hm:m≤maxLen) (hd:dstOk n (some d)=true) (hcs:List.replicate m z=cs)
 (h:∀ b,VL P n S w0 ops Q rest ((d,.slice (some ⟨b,0,none⟩) m m)::env) (.blk b e cs::L)) :
 VL P n S w0 ops Q ({ dst:=some d,op:=.makeSlice t l c,type:=ty,pos,after:=af,guard:=none }::rest) env L :=
 l_make hu hi hz hl hc hb hm hd (hcs ▸ h)
theorem zb (l:List UInt8):(bys l).length=l.length:=bys_length l
theorem zu (l:List UInt32):(u32s l).length=l.length:=u32s_length l
theorem zw (l:List UInt64):(u64s l).length=l.length:=u64s_length l
theorem zi (l:List Int):(i64s l).length=l.length:=i64s_length l
theorem zs {α:Type} {l:List α} {i:Nat} {a:α}:(l.set i a).length=l.length:=List.length_set
theorem zr {α:Type} {n:Nat} {a:α}:(List.replicate n a).length=n:=List.length_replicate
theorem zm {α β:Type} {l:List α} (f:α→β):(l.map f).length=l.length:=List.length_map f
theorem za {α:Type} {l m:List α}:(l++m).length=l.length+m.length:=List.length_append
theorem zt {α:Type} {l:List α} {i:Nat}:(l.take i).length=min i l.length:=List.length_take
theorem zd {α:Type} {l:List α} {i:Nat}:(l.drop i).length=l.length-i:=List.length_drop
theorem zc {α:Type} {a:α} {l:List α}:(a::l).length=l.length+1:=List.length_cons
theorem zn {α:Type}:([]:List α).length=0:=List.length_nil
end
theorem run_append_rowT {P:Program} (w:World) (t tx ty e:TypeId) (i:TypeInfo) (z:Value) (size bytes:Nat) (ht:P.underlying t=some (.slice e)) (dx:TypeDesc) (htx:P.underlying tx=some dx) (hdx:dx=.slice e∨dx=.string)
 (hi:P.info? e=some i) (hz:i.zero=some z) (hsize:i.size=size) (hby:i.bytes=bytes) (hzs:z.cells.size=size)
 (v:Value) (n:Nat) (xs:List Value) {T:TypeId} (hrow:Row w T size v n xs) (x:Value) (m:Nat) (news:List Value) (hl:news.length=m*size)
 (hlen:∀ w',(Builtin.lenOf x).run P w'=.ok m w') (hcells:∀ k,(Builtin.firstCells size m x).run P (w.drewN k)=.ok news.toArray (w.drewN k)) (h1:∀ u∈news,u.oneCell'=true)
 (hbytes:(n+m)*bytes≤70368744177664) (hmax:n+m≤70368744177664) (hb1:bytes≤1099511627776) :
 ∃ v' w' T',(Builtin.append_ #[t,tx] ty #[v,x]).run P w=.ok v' w'∧Row w' T' size v' (n+m) (xs++news)∧w.grownBy w' v.ownBlock∧((v'.ownBlock=v.ownBlock∧T'=T∧(m=0∨∃ A l c,v=.slice A l c∧n+m≤c))∨(v'.ownBlock=some w.heap.size∧T'=e∧w.grownBy w' none)):=by
 subst hsize
 subst hby
 have hml:n+m≤maxLen:=by simp only [maxLen];omega
 have hlen':(xs++news).length=(n+m)*i.size:=by rw [List.length_append,hrow.1,hl,Nat.add_mul]
 have hc0:(Builtin.firstCells i.size m x).run P w=.ok news.toArray w:=hcells 0
 have hc1:(Builtin.firstCells i.size m x).run P w.drew=.ok news.toArray w.drew:=hcells 1
 have grown:∀ (old:Nat),old<n+m→∀ (row:Option Nat),Row (w.drew.alloc (.cells (xs.toArray++news.toArray++Builtin.zeroCells z.cells (grownCap w (n+m) old e-(n+m))) e)) e i.size
  (.slice (some ⟨w.heap.size,0,none⟩) (n+m) (grownCap w (n+m) old e)) (n+m) (xs++news) ∧
  w.grownBy (w.drew.alloc (.cells (xs.toArray++news.toArray++Builtin.zeroCells z.cells (grownCap w (n+m) old e-(n+m))) e)) row:=by
  intro old ho row
  have hge:=grownCap_ge w (n+m) old e
  have hcm:grownCap w (n+m) old e≤maxLen:=grownCap_le_maxLen w (n+m) old e hml
  refine ⟨⟨hlen',.inr ⟨w.heap.size,_,(Builtin.zeroCells z.cells (grownCap w (n+m) old e-(n+m))).toList,rfl,hge,hcm,?_,⟨(0,0),?_,?_⟩⟩⟩,⟨rfl,rfl,rfl,by simp,fun k hk _=>Below.heap_alloc w.drew _ k hk⟩⟩
  ·rw [List.length_append,hlen',Array.length_toList,appendZero,hzs,← Nat.add_mul]
   congr 1
   omega
  ·have:=heap_alloc_new w.drew (.cells (xs.toArray++news.toArray++Builtin.zeroCells z.cells (grownCap w (n+m) old e-(n+m))) e)
   rw [show w.drew.heap.size=w.heap.size from rfl] at this
   rw [this]
   congr 2
   apply Array.ext'
   simp
  ·exact .inl rfl
 have hnext:∀ c,c<n+m→¬ (281474976710656<Builtin.nextslicecap (n+m) c*i.bytes):=by
  intro c hc h
  have h2:=nextcap_le (n+m) c hc
  have h3:Builtin.nextslicecap (n+m) c*i.bytes≤(2*(n+m)+1024)*i.bytes:=Nat.mul_le_mul_right _ h2
  have h4:(2*(n+m)+1024)*i.bytes=2*((n+m)*i.bytes)+1024*i.bytes:=by rw [Nat.add_mul,Nat.mul_assoc]
  have h5:1024*i.bytes≤1024*1099511627776*1:=by omega
  by_cases hb:i.bytes≤68719476736
  ·omega
  ·have h6:(n+m)*68719476736≤(n+m)*i.bytes:=Nat.mul_le_mul_left _ (by omega)
   have h7:n+m≤1024:=by omega
   have hlt:Builtin.nextslicecap (n+m) c≤2*(n+m):=by
    unfold Builtin.nextslicecap
    split
    ·omega
    ·split
     ·omega
     ·have key:∀ (k c:Nat),c≤2*(n+m)→256≤c→Builtin.growBy (n+m) k c≤2*(n+m):=by
       intro k
       induction k with
       | zero=>intro c hc _;simpa [Builtin.growBy] using hc
       | succ k ih =>
        intro c hc h256
        simp only [Builtin.growBy]
        split
        ·omega
        ·rename_i hcc
         exact ih _ (by omega) (by omega)
      exact key 4 c (by omega) (by omega)
   have h8:Builtin.nextslicecap (n+m) c*i.bytes≤2*(n+m)*i.bytes:=Nat.mul_le_mul_right _ hlt
   have h9:2*(n+m)*i.bytes=2*((n+m)*i.bytes):=by rw [Nat.mul_assoc]
   omega
 have hnotint:((n:Int)+(m:Int) > 9223372036854775807)=False:=by
  apply propext
  constructor
  ·intro h;omega
  ·intro h;exact h.elim
 rcases hrow.2 with ⟨rfl,rfl⟩ | ⟨g,cap,more,rfl,hnc,hcm,hcs,hblk⟩
 ·have hx:xs=[]:=List.eq_nil_of_length_eq_zero (by simpa using hrow.1)
  subst hx
  by_cases hm:m=0
  ·subst hm
   have hn:news=[]:=List.eq_nil_of_length_eq_zero (by simpa using hl)
   subst hn
   refine ⟨.slice none 0 0,w,T,?_,⟨by simp,.inl ⟨rfl,rfl⟩⟩,⟨rfl,rfl,rfl,Nat.le_refl _,fun _ _ _=>rfl⟩,.inl ⟨rfl,rfl,.inl rfl⟩⟩
   rcases hdx with rfl | rfl<;>simp [Builtin.append_,run_underlying ht,run_underlying htx,sizeOf,typeInfo,hi,hlen,hc0]
  ·have hgr:=grown 0 (by omega) (Value.ownBlock (.slice none 0 0))
   simp only [Nat.zero_add,List.nil_append,Array.empty_append] at hgr ⊢
   refine ⟨_,_,_,?_,hgr.1,hgr.2,.inr ⟨rfl,rfl,by simpa using (grown 0 (by omega) none).2⟩⟩
   have hn0:=hnext 0 (by omega)
   simp only [Nat.zero_add] at hn0
   have h63':¬ (9223372036854775807<(m:Int)):=by omega
   have hold:(Builtin.firstCells i.size 0 (.slice none 0 0)).run P w.drew=.ok #[] w.drew:=rfl
   rcases hdx with rfl | rfl<;>simp [Builtin.append_,run_underlying ht,run_underlying htx,sizeOf,typeInfo,zeroValue,hi,hz,hlen,hm,h63',hn0,Question.forced,hold,hc1,newRow,grownCap]
 ·by_cases hroom:n+m≤cap
  ·have hfit:n*i.size+news.length≤(xs++more).length:=by rw [hcs,hl,← Nat.add_mul];exact Nat.mul_le_mul_right _ hroom
   have hst:=run_storeCells_blk P hblk (n*i.size) news hfit h1
   have hsp:splice (xs++more) (n*i.size) news=(xs++news)++(more.drop news.length):=by
    unfold splice
    rw [← hrow.1]
    simp [List.drop_append]
   refine ⟨.slice (some ⟨g,0,none⟩) (n+m) cap,_,T,?_,⟨hlen',.inr ⟨g,cap,more.drop news.length,rfl,hroom,hcm,?_,?_⟩⟩,grownBy_setRow w g (splice (xs++more) (n*i.size) news).toArray,.inl ⟨rfl,rfl,.inr ⟨_,_,_,rfl,hroom⟩⟩⟩
   ·rcases hdx with rfl | rfl<;>simp [Builtin.append_,run_underlying ht,run_underlying htx,sizeOf,typeInfo,hi,hlen,hroom,hc0,Addr.add_lit,hst]
   ·have e1:=hrow.1
    rw [List.length_append] at hcs hfit ⊢
    rw [List.length_append,List.length_drop]
    omega
   ·rw [hsp]
    refine setRow_blk hblk ?_
    rw [List.length_append] at hfit ⊢
    rw [List.length_append,List.length_append,List.length_drop]
    have e1:=hrow.1
    omega
  ·have hgr:=grown cap (by omega) (some g)
   refine ⟨_,_,_,?_,hgr.1,hgr.2,.inr ⟨rfl,rfl,(grown cap (by omega) none).2⟩⟩
   have h63':¬ (9223372036854775807<((n:Int)+(m:Int))):=by omega
   have hn0:=hnext cap (by omega)
   have hold:(Builtin.firstCells i.size n (.slice (some ⟨g,0,none⟩) n cap)).run P w.drew=.ok xs.toArray w.drew:=by
    have hs:SlAt w.drew (some ⟨g,0,none⟩) xs:=(Blk.of_eq hblk rfl).sl0.left
    have:=run_loadCells_list (P:=P) w.drew ⟨g,0,none⟩ xs (fun j v hv=>hs.get hv)
    rw [hrow.1] at this
    exact this
   rcases hdx with rfl | rfl<;>(simp [Builtin.append_,run_underlying ht,run_underlying htx,sizeOf,typeInfo,zeroValue,hi,hz,hlen,hroom,h63',hn0,Question.forced,hold,hc1,newRow,grownCap];congr 2;apply Array.ext';simp)
section
variable {P : Program} {n : Nat} {S : List Nat} {w0 : World} {ops : Array Oper} {Q : QE} {rest : List Oper} {d : Tmp} {ty : TypeId} {pos : String} {af : Array Edge} {g : Option (Nat × Bool)} {env : Env} {L : List Res}
theorem cellsOfSl {size m cx:Nat} {A:Option Addr} {news:List Value} {w:World} (hA:SlAt w A news) (hl:news.length=m*size):∀ k,(Builtin.firstCells size m (.slice A m cx)).run P (w.drewN k)=.ok news.toArray (w.drewN k):=by
 intro j
 cases A with
 | none =>
  have:news=[]:=by
   cases news with
   | nil=>rfl
   | cons u r=>obtain ⟨a',e,_⟩:=hA 0 u rfl;simp at e
  subst this
  rfl
 | some ad =>
  have:=run_loadCells_list (P:=P) (w.drewN j) ad news (fun i u hu=>hA.get hu)
  rw [hl] at this
  exact this
theorem cellsOfStr {l:List UInt8} {w:World}:∀ k,(Builtin.firstCells 1 l.length (.string ⟨l.toArray⟩)).run P (w.drewN k)=.ok (bys l).toArray (w.drewN k):=by
 intro j
 have:(⟨l.toArray⟩:ByteArray).extract 0 l.length=⟨l.toArray⟩:=by
  apply ByteArray.ext
  simp
 simp [Builtin.firstCells,this,bys]
theorem l_appendT {t tx e T:TypeId} {s x:Operand} {z:Value} {size bytes p m cx:Nat} {v:Value} {xs news:List Value} {A:Option Addr} (k:Nat) (hs:evalE env s=some v) (hx:evalE env x=some (.slice A m cx)) (hk:L[k]?=some (.row T size v p xs)) (hu:P.underlying t=some (.slice e)) (htx:P.underlying tx=some (.slice e))
 (hi:(P.info? e).map (fun i=>(i.zero,i.size,i.bytes))=some (some z,size,bytes)) (hzs:z.cells.size=size) (hb1:bytes≤1099511627776) (hA:Reads S w0 L A news) (hl:news.length=m*size) (h1:∀ u∈news,u.oneCell'=true)
 (hbytes:(p+m)*bytes≤70368744177664) (hmax:p+m≤70368744177664) (hd:dstOk n (some d)=true) (h:∀ B c T',p+m≤c→c≤maxLen→VL P n S w0 ops Q rest ((d,.slice B (p+m) c)::env) (L.set k (.row T' size (.slice B (p+m) c) (p+m) (xs++news)))) :
 VL P n S w0 ops Q ({ dst:=some d,op:=.call { callee:=.builtin .append,args:=#[s,x],argTypes:=#[t,tx] },type:=ty,pos,after:=af,guard:=none }::rest) env L :=
 vl_run trivial fun a w hm H=>by
  obtain ⟨i,hi,hz',h1',h2'⟩:=info_parts hi
  obtain ⟨v',w',T',hr,hrow,hg,hat⟩:=run_append_rowT (P:=P) w t tx ty e i z size bytes hu (.slice e) htx (.inl rfl) hi hz' h1' h2' hzs v p xs (H.get hk) (.slice A m cx) m news hl (fun w'=>rfl) (cellsOfSl (hA w H) hl) h1 hbytes hmax hb1
  refine opw_val (v:=v') (w':=w') (by simp only [BigFrame.execOp_builtin,BigFrame.builtin_append,List.map_toArray,List.map_cons,List.map_nil,hm.eval hs,hm.eval hx,Sem.run_bind,hr,Result.andThen_ok,Sem.run_pure]) ?_
  obtain ⟨B,c,rfl,hc,hcm,_⟩:=Row.slice hrow
  refine (h B c T' hc hcm).run _ w' (hm.put hd _) (H.change hk hg hrow ?_)
  intro b hb
  simp only [Res.at] at hb ⊢
  rcases hat with ⟨e,_⟩ | ⟨e,_⟩
  ·exact .inl (e ▸ hb)
  ·rw [hb] at e;simp only [Option.some.injEq] at e;exact .inr (by omega)
theorem q_appendSN {t tx e T:TypeId} {s x:Operand} {z:Value} {bytes p:Nat} {A:Option Addr} {xs:List Value} {l:List UInt8} (k:Nat) (hs:evalE env s=some (.slice A p p)) (hx:evalE env x=some (.string ⟨l.toArray⟩)) (hk:L[k]?=some (.row T 1 (.slice A p p) p xs)) (hu:P.underlying t=some (.slice e)) (htx:P.underlying tx=some .string)
 (hi:(P.info? e).map (fun i=>(i.zero,i.size,i.bytes))=some (some z,1,bytes)) (hzs:z.cells.size=1) (hb1:bytes≤1099511627776)
 (hbytes:(p+l.length)*bytes≤70368744177664) (hmax:p+l.length≤70368744177664) (h0:0<l.length) :
 QT P n S w0 { dst:=some d,op:=.call { callee:=.builtin .append,args:=#[s,x],argTypes:=#[t,tx] },type:=ty,pos,after:=af,guard:=g } env L (.any (isSl (p+l.length)) (nRow e 1 (p+l.length) (xs++bys l))) :=
 ⟨fun a w hm H=>by
  obtain ⟨i,hi,hz',h1',h2'⟩:=info_parts hi
  obtain ⟨v',w',T',hr,hrow,hg,hat⟩:=run_append_rowT (P:=P) w t tx ty e i z 1 bytes hu .string htx (.inr rfl) hi hz' h1' h2' hzs (.slice A p p) p xs (H.get hk) (.string ⟨l.toArray⟩) l.length (bys l) (by rw [bys_length,Nat.mul_one]) (fun w'=>by simp [Builtin.lenOf,ByteArray.size]) cellsOfStr (bys_one _) hbytes hmax hb1
  refine opw_val (v:=v') (w':=w') (by simp only [BigFrame.execOp_builtin,BigFrame.builtin_append,List.map_toArray,List.map_cons,List.map_nil,hm.eval hs,hm.eval hx,Sem.run_bind,hr,Result.andThen_ok,Sem.run_pure]) ?_
  rcases hat with ⟨_,_,h3⟩ | ⟨e1,rfl,hg'⟩
  ·rcases h3 with h3 | ⟨A',l',c',h3,h4⟩
   ·omega
   ·cases h3;omega
  ·obtain ⟨B,c,rfl,hc,hcm,_⟩:=Row.slice hrow
   exact ⟨_,rfl,fun h=>by simp at h,⟨B,c,rfl,hc,hcm⟩,(St.refl w).add hg' hrow (fun b hb=>by simp only [Res.at] at hb;rw [hb] at e1;simp only [Option.some.injEq] at e1;omega)⟩⟩
theorem q_appendS0 {t tx e T:TypeId} {s x:Operand} {z:Value} {bytes p c:Nat} {A:Option Addr} {xs:List Value} (k:Nat) (hs:evalE env s=some (.slice A p c)) (hx:evalE env x=some (.string ⟨#[]⟩)) (hk:L[k]?=some (.row T 1 (.slice A p c) p xs)) (hu:P.underlying t=some (.slice e)) (htx:P.underlying tx=some .string)
 (hi:(P.info? e).map (fun i=>(i.zero,i.size,i.bytes))=some (some z,1,bytes)) (hpc:p≤c) :
 QT P n S w0 { dst:=some d,op:=.call { callee:=.builtin .append,args:=#[s,x],argTypes:=#[t,tx] },type:=ty,pos,after:=af,guard:=g } env L (.val (.slice A p c)) :=
 q_of rfl fun a w hm H=>by
  obtain ⟨i,hi,hz',h1',h2'⟩:=info_parts hi
  have hrow:Res.ok w (.row T 1 (.slice A p c) p xs):=H.get hk
  have hfc:(Builtin.firstCells 1 0 (.string ⟨#[]⟩)).run P w=.ok #[] w:=by
   have:=cellsOfStr (P:=P) (l:=[]) (w:=w) 0
   exact this
  have hr:(Builtin.append_ #[t,tx] ty #[.slice A p c,.string ⟨#[]⟩]).run P w=.ok (.slice A p c) w:=by
   rcases hrow.2 with ⟨e1,rfl⟩ | ⟨b,cap,more,e1,_,_,_,_⟩
   ·cases e1
    simp [Builtin.append_,run_underlying hu,run_underlying htx,sizeOf,typeInfo,hi,h1',Builtin.lenOf,ByteArray.size,hfc,Result.andThen]
   ·cases e1
    simp [Builtin.append_,run_underlying hu,run_underlying htx,sizeOf,typeInfo,hi,h1',Builtin.lenOf,ByteArray.size,hfc,hpc,Result.andThen,storeCells]
  simp only [BigFrame.execOp_builtin,BigFrame.builtin_append,List.map_toArray,List.map_cons,List.map_nil,hm.eval hs,hm.eval hx,Sem.run_bind,hr,Result.andThen_ok,Sem.run_pure]
theorem execClo {a:Act} {dst:Option Tmp} {f:FuncId} {xo:Operand} {xs:Array Operand} {ats:Array TypeId} {caps:Array Value} (h:a.eval xo=.func (.func f) #[] caps) :
 execOp a.eval { dst,op:=.call { callee:=.value xo,args:=xs,argTypes:=ats },type:=ty,pos,after:=af,guard:=g }=callFunc f (#[]++xs.map a.eval++caps):=by
 have e1:∀ c:Call,c.callee=.value xo→resolve a.eval c ty=pure { target:=.fn (.func f) caps,args:=#[]++c.args.map a.eval }:=by
  intro c hc
  unfold resolve
  rw [hc]
  simp only [h]
  rfl
 show (do let d ← resolve a.eval { callee:=.value xo,args:=xs,argTypes:=ats } ty;invoke d.target d.args)=_
 rw [e1 _ rfl]
 rfl
theorem q_makeFunc {f:FuncId} {caps:Array Operand} {vs:List Value} (hx:evalsE env caps.toList=some vs) :
 QT P n S w0 { dst:=some d,op:=.makeFunc (.func f) #[] caps,type:=ty,pos,after:=af,guard:=g } env L (.val (.func (.func f) #[] vs.toArray)) :=
 q_of rfl fun a w hm H=>by
  have e:=hm.evals hx
  have e2:caps.map a.eval=vs.toArray:=by
   apply Array.ext'
   simpa using e
  show (do pure (Next.value (← Instr.makeFunc (.func f) (#[].map a.eval) (caps.map a.eval))):Sem Next).run P w=_
  rw [e2]
  simp [Instr.makeFunc]
theorem opw_clo {a:Act} {w:World} {dst:Option Tmp} {Qx:Act→World→Prop} {QQ:Exit→Act→World→Prop} {f:FuncId} {fn:Func} {xo:Operand} {xs:Array Operand} {ats:Array TypeId} {caps:Array Value} (args:List Value) (hf:P.funcs[f]?=some fn) (hb:fn.body.isSome=true) (hn:(fn.name == "runtime.NumGoroutine")=false) (hxo:a.eval xo=.func (.func f) #[] caps) (hargs:xs.toList.map a.eval++caps.toList=args)
 (hc:Calls P f args.toArray w (fun e w'=>∃ v,e=.returned v∧Qx (a.put dst v) w')):Oper.wp P { dst,op:=.call { callee:=.value xo,args:=xs,argTypes:=ats },type:=ty,pos,after:=af,guard:=g } a w Qx QQ:=by
 unfold Oper.wp
 have hbn:¬ fn.body=none:=by intro h;rw [h] at hb;cases hb
 have hn':¬ fn.name = "runtime.NumGoroutine" := by intro h;rw [h] at hn;simp at hn
 have e1:(callFunc f args.toArray).run P w=.ok (.enter f args.toArray) w:=by
  simp [callFunc,hf,hn',hbn]
 have e2:(#[]++xs.map a.eval++caps:Array Value)=args.toArray:=by
  rw [← hargs]
  apply Array.ext'
  simp
 rw [execClo hxo,e2,e1]
 refine hc.mono ?_
 rintro e w' ⟨v,rfl,h⟩
 exact h
theorem l_clo {f:FuncId} {fn:Func} {xo:Operand} {xs:Array Operand} {ats:Array TypeId} {caps args:List Value} {F:Value→List Res→Prop} (hxo:evalE env xo=some (.func (.func f) #[] caps.toArray)) (hf:P.funcs[f]?=some fn) (hb:fn.body.isSome=true) (hn:(fn.name == "runtime.NumGoroutine")=false) (hx:evalsE env xs.toList=some args)
 (hc:∀ w,St S w0 L w→Calls P f (args++caps).toArray w (fun e w'=>∃ v L',e=.returned v∧F v L'∧St S w0 L' w')) (hd:dstOk n (some d)=true) (h:∀ v L',F v L'→VL P n S w0 ops Q rest ((d,v)::env) L') :
 VL P n S w0 ops Q ({ dst:=some d,op:=.call { callee:=.value xo,args:=xs,argTypes:=ats },type:=ty,pos,after:=af,guard:=none }::rest) env L :=
 vl_run trivial fun a w hm H=>opw_clo (args++caps) hf hb hn (hm.eval hxo) (by rw [hm.evals hx]) ((hc w H).mono fun e w' ⟨v,L',h1,h2,h3⟩=>⟨v,h1,(h v L' h2).run _ w' (hm.put hd v) h3⟩)
end
theorem foldSet:∀ (v:List Value) (k off:Nat) (cs:List Value),off+k+v.length≤cs.length→(v.zipIdx k).foldl (fun (cs:Array Value) (p:Value × Nat)=>cs.setIfInBounds (off+p.2) p.1) cs.toArray=(cs.take (off+k)++v++cs.drop (off+k+v.length)).toArray
 | [],k,off,cs,h=>by simp
 | x::r,k,off,cs,h=>by
  simp only [List.length_cons] at h
  rw [List.zipIdx_cons,List.foldl_cons]
  have e1:cs.toArray.setIfInBounds (off+k) x=(cs.set (off+k) x).toArray:=by simp
  simp only [e1]
  rw [foldSet r (k+1) off (cs.set (off+k) x) (by simp;omega)]
  have e2:(cs.set (off+k) x).take (off+(k+1))=cs.take (off+k)++[x]:=by
   rw [show off+(k+1)=off+k+1 by omega,List.take_succ_eq_append_getElem (by simp;omega),List.take_set_of_le (by omega)]
   simp
  have e3:(cs.set (off+k) x).drop (off+(k+1)+r.length)=cs.drop (off+k+(x::r).length):=by
   rw [List.drop_set_of_lt (by omega)]
   congr 1
   simp
   omega
  rw [e2,e3]
  simp
theorem fillG (size:Nat):∀ (vs:List (List Value)) (k:Nat) (c:List Value),(∀ v∈vs,v.length=size)→(k+vs.length)*size≤c.length →
 Instr.fill (fun i=>some (i*size,size)) c.toArray ((List.range' k vs.length).zip (vs.map fun v=>Value.agg v.toArray))=some (c.take (k*size)++vs.flatten++c.drop ((k+vs.length)*size)).toArray
 | [],k,c,_,_=>by simp [Instr.fill]
 | v::r,k,c,hv,h=>by
  have hvl:=hv v (by simp)
  simp only [List.length_cons] at h ⊢
  have h2:k*size+size≤c.length:=by
   have:(k+(r.length+1))*size=k*size+size+r.length*size:=by rw [Nat.add_mul,Nat.add_mul];omega
   omega
  rw [List.range'_succ,List.map_cons,List.zip_cons_cons]
  have hcells:(Value.agg v.toArray).cells=v.toArray:=rfl
  simp only [Instr.fill,hcells]
  rw [if_neg (by simp [hvl];omega)]
  have hf:=foldSet v 0 (k*size) c (by omega)
  have e0:(v.toArray.zipIdx.foldl (fun (cs:Array Value) (x:Value × Nat)=>match x with | (c,j)=>cs.setIfInBounds (k*size+j) c) c.toArray)=(c.take (k*size)++v++c.drop (k*size+size)).toArray:=by
   rw [← Array.foldl_toList,Array.toList_zipIdx]
   rw [Nat.add_zero,hvl] at hf
   exact hf
  rw [e0]
  have hcl:(c.take (k*size)++v++c.drop (k*size+size)).length=c.length:=by simp [hvl];omega
  rw [fillG size r (k+1) _ (fun u hu=>hv u (by simp [hu])) (by rw [hcl];rw [show k+1+r.length=k+(r.length+1) by omega];exact h)]
  have hk1:(k+1)*size=k*size+size:=by rw [Nat.add_mul,Nat.one_mul]
  have hlt:(c.take (k*size)).length=k*size:=by simp;omega
  have e1:(c.take (k*size)++v++c.drop (k*size+size)).take ((k+1)*size)=c.take (k*size)++v:=by
   rw [List.take_append_of_le_length (by simp [hvl];omega),List.take_of_length_le (by simp [hvl];omega)]
  have e2:(c.take (k*size)++v++c.drop (k*size+size)).drop ((k+1+r.length)*size)=c.drop ((k+(r.length+1))*size):=by
   have h3:(k+1+r.length)*size=k*size+size+r.length*size:=by rw [Nat.add_mul,Nat.add_mul];omega
   have h4:(k+(r.length+1))*size=k*size+size+r.length*size:=by rw [Nat.add_mul,Nat.add_mul];omega
   rw [h3,h4,List.drop_append,List.drop_eq_nil_of_le (by simp [hvl];omega),List.nil_append,List.drop_drop]
   congr 1
   simp [hvl]
   omega
  rw [e1,e2]
  simp
section
variable {P : Program} {n : Nat} {S : List Nat} {w0 : World} {ops : Array Oper} {Q : QE} {rest : List Oper} {d : Tmp} {ty : TypeId} {pos : String} {af : Array Edge} {g : Option (Nat × Bool)} {env : Env} {L : List Res}
theorem q_litG {t e:TypeId} {m size bytes:Nat} {pr:Array (Nat × Operand)} {z:Value} (vs:List (List Value)) (hu:P.underlying t=some (.slice e)) (hi:(P.info? e).map (fun i=>(i.zero,i.size,i.bytes))=some (some z,size,bytes)) (hsm:m*size≤16777216) (hsz:0<size)
 (hp:evalsE env (pr.toList.map (·.2))=some (vs.map fun v=>Value.agg v.toArray)) (hm:vs.length=m) (hi2:pr.toList.map (·.1)=List.range m) (h1:∀ v∈vs,v.length=size) :
 QT P n S w0 { dst:=some d,op:=.buildSlice t m pr,type:=ty,pos,after:=af,guard:=g } env L (.any (fun u=>∃ b,u=.slice (some ⟨b,0,none⟩) m m) (nRow e size m vs.flatten)) :=
 ⟨fun a w hmo H=>by
  have hps:(pr.map fun (i,x)=>(i,a.eval x)).toList=(List.range' 0 vs.length).zip (vs.map fun v=>Value.agg v.toArray):=by
   have h2:=hmo.evals hp
   rw [List.map_map] at h2
   rw [← h2,hm,← List.range_eq_range',← hi2,Array.toList_map]
   rw [List.zip_map']
   rfl
  refine opw_lit vs.flatten (St.refl w) hu hi hsm ?_ ?_ ?_ fun w' b H'=>⟨_,rfl,fun h=>by simp at h,⟨b,rfl⟩,H'⟩
  ·rw [hps]
   have hz:(if m*size=0 then #[] else (Array.range (m*size)).map (z.cells[· % z.cells.size]!))=((List.range (m*size)).map (z.cells[· % z.cells.size]!)).toArray:=by
    split
    ·rename_i h0;rw [h0];rfl
    ·apply Array.ext';simp
   rw [hz,fillG size vs 0 _ h1 (by simp [hm])]
   simp [hm]
  ·have:∀ l:List (List Value),(∀ v∈l,v.length=size)→l.flatten.length=l.length*size:=by
    intro l
    induction l with
    | nil=>intro _;simp
    | cons x r ih=>intro h;rw [List.flatten_cons,List.length_append,ih (fun v hv=>h v (by simp [hv])),h x (by simp),List.length_cons,Nat.add_mul];omega
   rw [this vs h1,hm]
  ·have:m≤m*size:=Nat.le_mul_of_pos_right _ hsz
   simp only [maxLen];omega⟩
theorem l_litG {t e:TypeId} {m size bytes:Nat} {pr:Array (Nat × Operand)} {z:Value} (vs:List (List Value)) (hu:P.underlying t=some (.slice e)) (hi:(P.info? e).map (fun i=>(i.zero,i.size,i.bytes))=some (some z,size,bytes)) (hsm:m*size≤16777216) (hsz:0<size)
 (hp:evalsE env (pr.toList.map (·.2))=some (vs.map fun v=>Value.agg v.toArray)) (hm:vs.length=m) (hi2:pr.toList.map (·.1)=List.range m) (h1:∀ v∈vs,v.length=size) (hd:dstOk n (some d)=true)
 (h:∀ b,VL P n S w0 ops Q rest ((d,.slice (some ⟨b,0,none⟩) m m)::env) (.row e size (.slice (some ⟨b,0,none⟩) m m) m vs.flatten::L)) :
 VL P n S w0 ops Q ({ dst:=some d,op:=.buildSlice t m pr,type:=ty,pos,after:=af,guard:=none }::rest) env L :=
 vl_q (q_litG vs hu hi hsm hsz hp hm hi2 h1) trivial hd (by rintro v ⟨b,rfl⟩;exact h b)
end
def QScope (Q:QE):QE
 | .goto _,_,_=>False
 | e,env,L=>Q e env L
section
variable {P : Program} {n : Nat} {S : List Nat} {w0 : World} {Q : QE} {env : Env} {L : List Res}
theorem VC_scope {c:Code} (h:VC P n S w0 c (QScope Q) env L):VC P n S w0 (.scope c) Q env L :=
 ⟨fun a w hm H=>wp_scope_straight (wp_mono (h.run a w hm H) fun e a w ⟨env,L,h1,h2,h3⟩=>by
  cases e with
  | goto l=>exact h3.elim
  | _=>exact ⟨env,L,h1,h2,h3⟩)⟩
theorem sc_r (h:Q .ret env L):QScope Q .ret env L:=h
end
def cellsL (v:Value):List Value:=v.cells.toList
def flatV (vs:List Value):List Value:=(vs.map cellsL).flatten
theorem cellsL_size (v:Value):v.cells.size=(cellsL v).length:=by simp [cellsL]
def plOk (pl:Nat→Option (Nat × Nat)):Nat→Nat→List Value→Prop
 | _,_,[]=>True
 | k,o,v::r=>pl k=some (o,(cellsL v).length)∧plOk pl (k+1) (o+(cellsL v).length) r
theorem fillSeq (pl:Nat→Option (Nat × Nat)):∀ (vs:List Value) (k o:Nat) (c:List Value),plOk pl k o vs→o+(flatV vs).length≤c.length →
 Instr.fill pl c.toArray ((List.range' k vs.length).zip vs)=some (c.take o++flatV vs++c.drop (o+(flatV vs).length)).toArray
 | [],k,o,c,_,_=>by simp [Instr.fill,flatV]
 | v::r,k,o,c,hp,h=>by
  obtain ⟨hp1,hp2⟩:=hp
  have hfl:flatV (v::r)=cellsL v++flatV r:=rfl
  rw [hfl,List.length_append] at h
  rw [List.length_cons,List.range'_succ,List.zip_cons_cons]
  simp only [Instr.fill,hp1]
  rw [if_neg (by simp [cellsL_size];omega)]
  have hf:=foldSet (cellsL v) 0 o c (by omega)
  have e0:(v.cells.zipIdx.foldl (fun (cs:Array Value) (x:Value × Nat)=>match x with | (c,j)=>cs.setIfInBounds (o+j) c) c.toArray)=(c.take o++cellsL v++c.drop (o+(cellsL v).length)).toArray:=by
   rw [← Array.foldl_toList,Array.toList_zipIdx]
   rw [Nat.add_zero] at hf
   exact hf
  rw [e0]
  have hcl:(c.take o++cellsL v++c.drop (o+(cellsL v).length)).length=c.length:=by simp;omega
  rw [fillSeq pl r (k+1) (o+(cellsL v).length) _ hp2 (by rw [hcl];omega)]
  have hlt:(c.take o).length=o:=by simp;omega
  have e1:(c.take o++cellsL v++c.drop (o+(cellsL v).length)).take (o+(cellsL v).length)=c.take o++cellsL v:=by
   rw [List.take_append_of_le_length (by simp;omega),List.take_of_length_le (by simp;omega)]
  have e2:(c.take o++cellsL v++c.drop (o+(cellsL v).length)).drop (o+(cellsL v).length+(flatV r).length)=c.drop (o+(flatV (v::r)).length):=by
   rw [hfl,List.length_append,List.drop_append,List.drop_eq_nil_of_le (by simp;omega),List.nil_append,List.drop_drop]
   congr 1
   simp
   omega
  rw [e1,e2,hfl]
  simp
def placesS (P:Program) (t:TypeId):Option (Nat × List (Nat × Nat)) :=
 match P.info? t,P.underlying t with
 | some it,some (.struct fields) =>
  match it.zero,fields.toList.mapM (fun f=>(P.info? f.type).map fun i=>(f.offset,i.size)) with
  | some z,some places=>some ((cellsL z).length,places)
  | _,_=>none
 | _,_=>none
def seqs:Nat→List Nat→List (Nat × Nat)
 | _,[]=>[]
 | o,s::r=>(o,s)::seqs (o+s) r
theorem plOk_seq:∀ (vs:List Value) (k o:Nat) (pre places:List (Nat × Nat)),pre.length=k→places=pre++seqs o (vs.map fun v=>(cellsL v).length)→plOk (fun i=>places.toArray[i]?) k o vs
 | [],k,o,pre,places,_,_=>trivial
 | v::r,k,o,pre,places,hk,h=>by
  refine ⟨?_,plOk_seq r (k+1) (o+(cellsL v).length) (pre++[(o,(cellsL v).length)]) places (by simp [hk]) (by rw [h];simp [seqs])⟩
  subst hk
  rw [h]
  simp [seqs]
theorem flatV_length:∀ vs:List Value,(flatV vs).length=(vs.map fun v=>(cellsL v).length).sum
 | []=>rfl
 | v::r=>by
  have h:=flatV_length r
  rw [show flatV (v::r)=cellsL v++flatV r from rfl,List.length_append,h]
  rfl
theorem built_seq {P:Program} {t:TypeId} {tot:Nat} {places:List (Nat × Nat)} {vs:List Value} {sizes:List Nat} (hP:placesS P t=some (tot,places)) (hq:seqs 0 sizes=places) (ht:sizes.sum=tot) (hs:vs.map (fun v=>(cellsL v).length)=sizes) :
 P.built t ((List.range vs.length).zip vs)=some (flatV vs).toArray:=by
 unfold placesS at hP
 unfold Program.built
 cases hit:P.info? t with
 | none=>simp [hit] at hP
 | some it =>
  cases hu:P.underlying t with
  | none=>simp [hit,hu] at hP
  | some dd =>
   cases dd<;>try (simp [hit,hu] at hP;done)
   rename_i fields
   simp only [hit,hu] at hP ⊢
   cases hz:it.zero with
   | none=>simp [hz] at hP
   | some z =>
    cases hm:fields.toList.mapM (fun f=>(P.info? f.type).map fun i=>(f.offset,i.size)) with
    | none=>rw [hz,hm] at hP;simp at hP
    | some pl =>
     rw [hz,hm] at hP
     simp only [Option.some.injEq,Prod.mk.injEq] at hP
     obtain ⟨h1,h2⟩:=hP
     subst h2
     have hfl:(flatV vs).length=(cellsL z).length:=by rw [flatV_length,hs,ht,h1]
     have h3:=fillSeq (fun i=>pl.toArray[i]?) vs 0 0 (cellsL z) (plOk_seq vs 0 0 [] pl rfl (by rw [hs,hq];rfl)) (by omega)
     simp only [hz]
     rw [List.range_eq_range']
     have e:z.cells=(cellsL z).toArray:=by simp [cellsL]
     rw [e,h3]
     rw [Nat.zero_add,hfl]
     simp
section
variable {P : Program} {n : Nat} {S : List Nat} {w0 : World} {ops : Array Oper} {Q : QE} {rest : List Oper} {d : Tmp} {ty : TypeId} {pos : String} {af : Array Edge} {g : Option (Nat × Bool)} {env : Env} {L : List Res}
theorem q_buildS {t:TypeId} {pr:Array (Nat × Operand)} {tot:Nat} {places:List (Nat × Nat)} {vs:List Value} {sizes:List Nat} {c':List Value} (hP:placesS P t=some (tot,places)) (hq:seqs 0 sizes=places) (ht:sizes.sum=tot)
 (hp:evalsE env (pr.toList.map (·.2))=some vs) (hi:pr.toList.map (·.1)=List.range vs.length) (hs:vs.map (fun v=>(cellsL v).length)=sizes) (hc:flatV vs=c') :
 QT P n S w0 { dst:=some d,op:=.build t pr,type:=ty,pos,after:=af,guard:=g } env L (.val (.agg c'.toArray)) :=
 q_build (c':=c') hp (by rw [hi,← hc];exact built_seq hP hq ht hs)
theorem set_self {α:Type} {l:List α} {k:Nat} {x:α} (h:l[k]?=some x):l.set k x=l:=by
 apply List.ext_getElem?
 intro i
 rw [List.getElem?_set]
 split
 ·rename_i hi;subst hi
  have:=(List.getElem?_eq_some_iff.1 h).1
  rw [if_pos this,h]
 ·rfl
theorem l_convS {t e T:TypeId} {x:Operand} {b m cap size r:Nat} {xs:List Value} (k:Nat) (hu:P.underlying t=some (.slice e)) (he:P.underlying e=some (.int .u8)) (hx:evalE env x=some (.slice (some ⟨b,0,none⟩) m cap)) (hk:L[k]?=some (.row T size (.slice (some ⟨b,0,none⟩) m cap) r xs)) (hd:dstOk n (some d)=true)
 (h:VL P n S w0 ops Q rest ((d,.slice (some ⟨b,0,none⟩) m cap)::env) L) :
 VL P n S w0 ops Q ({ dst:=some d,op:=.convert t t x,type:=ty,pos,after:=af,guard:=none }::rest) env L :=
 vl_run trivial fun a w hm H=>by
  obtain ⟨hl,hh⟩:=H.get hk
  rcases hh with ⟨e1,_⟩ | ⟨b',cap',more,e1,h1,h2,h3,⟨fz,h4,h5⟩⟩
  ·cases e1
  ·cases e1
   have hsh:w.shape? b=some (T,(xs++more).length):=by simp [World.shape?,h4]
   have hw:(w.freeze ⟨b,(xs++more).length,none⟩ 1).heap[b]?=some (.cells (xs++more).toArray T (if fz.1==fz.2 then ((xs++more).length,(xs++more).length+1) else (min fz.1 (xs++more).length,max fz.2 ((xs++more).length+1)))):=by
    simp only [World.freeze,Nat.one_ne_zero,if_false]
    rw [Array.getElem?_modify]
    simp [h4]
   have hg:w.grownBy (w.freeze ⟨b,(xs++more).length,none⟩ 1) (some b):=⟨rfl,rfl,rfl,by simp [World.freeze],fun j _ hj=>by
    simp only [World.freeze,Nat.one_ne_zero,if_false]
    rw [Array.getElem?_modify]
    have:b≠j:=fun h=>hj (by simp [h])
    simp [this]⟩
   have hok:Row (w.freeze ⟨b,(xs++more).length,none⟩ 1) T size (.slice (some ⟨b,0,none⟩) m cap) m xs:=by
    refine ⟨hl,.inr ⟨b,cap,more,rfl,h1,h2,h3,⟨_,hw,?_⟩⟩⟩
    rcases h5 with h5 | h5
    ·rw [if_pos (by simp [h5])]
     exact .inr (Nat.le_refl _)
    ·split
     ·exact .inr (Nat.le_refl _)
     ·right
      show (xs++more).length≤min fz.1 (xs++more).length
      omega
   have H':=H.change hk (r':=.row T size (.slice (some ⟨b,0,none⟩) m cap) m xs) hg hok (fun _ hb=>.inl hb)
   rw [set_self hk] at H'
   refine opw_val (v:=.slice (some ⟨b,0,none⟩) m cap) (w':=w.freeze ⟨b,(xs++more).length,none⟩ 1) ?_ (h.run _ _ (hm.put hd _) H')
   simp [execOp,hm.eval hx,convert,run_underlying hu,run_underlying he,markStringish,hsh,Result.andThen]
theorem q_neStr {T T':TypeId} {x y:Operand} {l m:List UInt8} (hT:P.underlying T=some .string) (hx:evalE env x=some (.string ⟨l.toArray⟩)) (hy:evalE env y=some (.string ⟨m.toArray⟩)) :
 QT P n S w0 { dst:=some d,op:=.binOp .neq T x y T',type:=ty,pos,after:=af,guard:=g } env L (.val (.bool (!decide (l=m)))) :=
 q_bin hx hy fun w=>by
  simp [eqGuard,binOp,Op.stringOp]
  rw [Bool.eq_iff_iff]
  simp
end
abbrev Xs:=Nat→Value
inductive PS where
 | val (f:Xs→Xs→Value)
 | any (F:Xs→Xs→Value→Value→Prop) (N:Xs→Xs→Value→Value→List Res)
def PS.fact:PS→Xs→Xs→Value→Value→Prop
 | .val f,xs,gs,v,_=>v=f xs gs
 | .any F _,xs,gs,v,g=>F xs gs v g
def PS.cur:PS→Xs→Xs→Value→Value
 | .val f,xs,gs,_=>f xs gs
 | .any _ _,_,_,v=>v
def PS.own:PS→Xs→Xs→Value→Value→List Res
 | .val _,_,_,_,_=>[]
 | .any _ N,xs,gs,v,g=>N xs gs v g
theorem PS.cur_eq {s:PS} {xs gs:Xs} {v g:Value} (h:s.fact xs gs v g):s.cur xs gs v=v:=by
 cases s with
 | val f=>exact h.symm
 | any F N=>rfl
def psAt:List PS→Nat→PS
 | [],_=>.val fun _ _=>undef
 | s::r,k=>match k with | 0=>s | k+1=>psAt r k
def lAt:List (List Nat)→Nat→List Nat
 | [],_=>[]
 | c::r,k=>match k with | 0=>c | k+1=>lAt r k
def factP (sp:List PS) (Cs:List (List Nat)) (xs gs:Xs) (j:Nat):Prop:=(psAt sp j).fact (mask (lAt Cs j) xs) (mask (lAt Cs j) gs) (xs j) (gs j)
def curP (sp:List PS) (Cs:List (List Nat)) (xs gs:Xs) (j:Nat):Value:=(psAt sp j).cur (mask (lAt Cs j) xs) (mask (lAt Cs j) gs) (xs j)
def ownP (sp:List PS) (Cs:List (List Nat)) (xs gs:Xs) (j:Nat):List Res:=(psAt sp j).own (mask (lAt Cs j) xs) (mask (lAt Cs j) gs) (xs j) (gs j)
def selI (q:Nat→Bool):Nat→List Res→List Res
 | _,[]=>[]
 | k,r::L=>match q k with | true=>r::selI q (k+1) L | false=>selI q (k+1) L
def selO (q:Nat→Bool) (ow:Nat→List Res):Nat→Nat→List Res
 | _,0=>[]
 | k,m+1=>match q k with | true=>ow k++selO q ow (k+1) m | false=>selO q ow (k+1) m
def takenB (T:List (List Nat)) (m:Nat) (D:Nat→Bool) (k:Nat):Bool:=(List.range m).any fun i=>D i&&(lAt T i).contains k
def waitsB (T Cs:List (List Nat)) (m i k:Nat):Bool:=(List.range m).all fun i'=>!(lAt T i').contains k||(lAt Cs i').contains i
def takesOk (m:Nat) (Cs TI TO:List (List Nat)):Bool :=
 (List.range m).all fun i=>((lAt TO i).all fun j=>(lAt Cs i).contains j)&&((lAt Cs i).all fun j=>(lAt Cs j).all fun k=>(lAt Cs i).contains k) &&
  (List.range m).all fun i'=>i==i'||(((lAt TI i).all fun k=>!(lAt TI i').contains k)&&((lAt TO i).all fun k=>!(lAt TO i').contains k))
theorem selI_split {q a b:Nat→Bool} (h:∀ k,q k=(a k||b k)) (hd:∀ k,a k=true→b k=false):∀ (L:List Res) (k:Nat),(selI q k L).Perm (selI a k L++selI b k L)
 | [],k=>.nil
 | r::L,k=>by
  have ih:=selI_split h hd L (k+1)
  unfold selI
  rw [h k]
  cases ha:a k with
  | true=>rw [hd k ha];exact .cons r ih
  | false =>
   cases hb:b k with
   | true=>exact (ih.cons r).trans (List.perm_middle).symm
   | false=>exact ih
theorem selO_split {q a b:Nat→Bool} {ow:Nat→List Res} (h:∀ k,q k=(a k||b k)) (hd:∀ k,a k=true→b k=false):∀ (m k:Nat),(selO q ow k m).Perm (selO a ow k m++selO b ow k m)
 | 0,k=>.nil
 | m+1,k=>by
  have ih:=selO_split (ow:=ow) h hd m (k+1)
  unfold selO
  rw [h k]
  cases ha:a k with
  | true =>
   rw [hd k ha]
   simp only [Bool.true_or,List.append_assoc]
   exact ih.append_left _
  | false =>
   cases hb:b k with
   | true =>
    simp only [Bool.or_true]
    refine (ih.append_left (ow k)).trans ?_
    rw [← List.append_assoc,← List.append_assoc]
    exact List.perm_append_comm.append_right _
   | false=>exact ih
theorem selO_congr {q q':Nat→Bool} {ow ow':Nat→List Res}:∀ (m k:Nat),(∀ j,k≤j→j<k+m→q j=q' j∧(q j=true→ow j=ow' j))→selO q ow k m=selO q' ow' k m
 | 0,k,_=>rfl
 | m+1,k,h=>by
  have ih:=selO_congr m (k+1) (fun j h1 h2=>h j (by omega) (by omega))
  unfold selO
  have hk:=h k (Nat.le_refl _) (by omega)
  rw [← hk.1,ih]
  cases hq:q k with
  | true=>simp only [hk.2 hq]
  | false=>rfl
theorem selI_congr {q q':Nat→Bool} (h:∀ k,q k=q' k) (L:List Res) (k:Nat):selI q k L=selI q' k L:=by rw [show q=q' from funext h]
theorem selO_one {ow:Nat→List Res} {i:Nat}:∀ (m k:Nat),k≤i→i<k+m→selO (fun j=>j==i) ow k m=ow i
 | 0,k,h1,h2=>by omega
 | m+1,k,h1,h2=>by
  unfold selO
  by_cases hk:k=i
  ·subst hk
   have e:∀ (m s:Nat),k<s→selO (fun j=>j==k) ow s m=[]:=by
    intro m
    induction m with
    | zero=>intro s _;rfl
    | succ m ih =>
     intro s hs
     unfold selO
     rw [show (s==k)=false by simp;omega]
     exact ih (s+1) (by omega)
   rw [e m (k+1) (by omega)]
   simp
  ·rw [show (k==i)=false by simp;exact hk]
   exact selO_one m (k+1) (by omega) (by omega)
theorem perm6 {α:Type} (a b c d e f:List α):((a++(b++c))++(d++(e++f))).Perm ((a++d)++((b++e)++(c++f))):=by
 classical
 rw [List.perm_iff_count]
 intro x
 simp only [List.count_append]
 omega
theorem mask_mask {C C':List Nat} {xs:Xs} (h:∀ j∈C,j∈C'):mask C (mask C' xs)=mask C xs:=by
 refine mask_congr fun j hj=>?_
 unfold mask
 rw [show C'.contains j=true by simpa using h j hj]
theorem mask_in {C:List Nat} {xs:Xs} {j:Nat} (h:j∈C):mask C xs j=xs j:=by
 unfold mask
 rw [show C.contains j=true by simpa using h]
structure QPT (P:Program) (n:Nat) (S:List Nat) (w0:World) (o:Oper) (env:Env) (A B:List Res) (F:Value→Value→Prop) (N:Value→Value→List Res):Prop where
 run:∀ a w R,Models n env a→St S w0 (A++(B++R)) w→o.wp P a w (fun a' w'=>∃ v g,a'=a.put o.dst v∧(o.dst=none→v=undef)∧F v g∧St S w0 (N v g++(B++R)) w') noQ
structure QPX (P:Program) (n:Nat) (S:List Nat) (w0:World) (Z:List PanicEntry→World→Prop) (o:Oper) (env:Env) (A B:List Res):Prop where
 run:∀ a w R,Models n env a→St S w0 (A++(B++R)) w→o.wp P a w (fun _ _=>False) (pQ Z)
def QPG (P:Program) (n:Nat) (S:List Nat) (w0:World) (Z:List PanicEntry→World→Prop) (ops:Array Oper) (o:Oper) (env:Env) (A B:List Res) (F:Value→Value→Prop) (N:Value→Value→List Res):Prop :=
 (Met ops env o.guard∧QPT P n S w0 o env A B F N)∨(Unmet ops env o.guard∧∃ g,F undef g∧N undef g=A)∨(Met ops env o.guard∧QPX P n S w0 Z o env A B)
def envP (ops:Array Oper) (cv:Nat→Value):List Nat→Env→Env
 | [],env=>env
 | j::r,env=>envP ops cv r (ext ((ops[j]?).bind (·.dst)) (cv j) env)
theorem Models.envP {n:Nat} {ops:Array Oper} {cv:Nat→Value} (hd:∀ (j:Nat) (o:Oper),ops[j]?=some o→dstOk n o.dst=true) :
 ∀ (W:List Nat) {env:Env} {a:Act},Models n env a→Models n (envP ops cv W env) (frameOf ops cv W a)
 | [],env,a,h=>h
 | j::r,env,a,h=>by
  refine Models.envP hd r (h.put ?_ _)
  cases hj:ops[j]? with
  | none=>rfl
  | some o=>simpa using hd j o hj
def stP (m:Nat) (Cs TI TO:List (List Nat)) (sp:List PS) (L:List Res) (D:Nat→Bool) (xs gs:Xs):List Res :=
 selI (fun k=>!takenB TI m D k) 0 L++selO (fun j=>D j&&!takenB TO m D j) (ownP sp Cs xs gs) 0 m
def preP (m:Nat) (Cs TI TO:List (List Nat)) (sp:List PS) (L:List Res) (i:Nat) (xs gs:Xs):List Res :=
 selI (fun k=>(lAt TI i).contains k) 0 L++selO (fun j=>(lAt TO i).contains j) (ownP sp Cs xs gs) 0 m
def ctxP (m:Nat) (Cs TI TO:List (List Nat)) (sp:List PS) (L:List Res) (i:Nat) (xs gs:Xs):List Res :=
 selI (fun k=>waitsB TI Cs m i k) 0 L++selO (fun j=>(lAt Cs i).contains j&&waitsB TO Cs m i j) (ownP sp Cs xs gs) 0 m
theorem lAt_of {Cs:List (List Nat)}:∀ {i:Nat} {C:List Nat},Cs[i]?=some C→lAt Cs i=C:=by
 induction Cs with
 | nil=>intro i C h;simp at h
 | cons c r ih =>
  intro i C h
  cases i with
  | zero=>simp at h;exact h
  | succ i=>exact ih (by simpa using h)
section
variable {P : Program} {n : Nat} {S : List Nat} {w0 : World} {Q : QE} {env : Env} {L : List Res}
theorem VC_drawP {id:Nat} {l:List Oper} (m:Nat) (sp:List PS) (Ws Cs TI TO:List (List Nat)) (hmix:P.follows .mixedOrders=true)
 (hok:(orderly l.toArray n&&tablesOk l.toArray m Ws Cs&&takesOk m Cs TI TO&&Nat.ble m l.length)=true)
 (hq:∀ i o,i<m→l[i]?=some o→∀ xs gs:Xs,(∀ j∈lAt Cs i,factP sp Cs xs gs j) →
  QPG P n S w0 (zQ S w0 Q) l.toArray o (envP l.toArray (curP sp Cs xs gs) (List.range i) env) (preP m Cs TI TO sp L i xs gs) (ctxP m Cs TI TO sp L i xs gs) ((psAt sp i).fact xs gs) ((psAt sp i).own xs gs))
 (hfin:∀ xs gs:Xs,(∀ j,j<m→factP sp Cs xs gs j)→VL P n S w0 l.toArray (QN Q) (l.drop m) (envP l.toArray (curP sp Cs xs gs) (List.range m) env) (stP m Cs TI TO sp L (fun _=>true) xs gs)) :
 VC P n S w0 (.region id l.toArray true) Q env L:=by
 simp only [Bool.and_eq_true] at hok
 obtain ⟨⟨⟨ho,ht⟩,htk⟩,hml⟩:=hok
 have hml:=Nat.le_of_ble_eq_true hml
 refine ⟨fun a0 w hmod H=>?_⟩
 have hn:=hmod.size
 have hlt:∀ (i:Nat) (o:Oper),l.toArray[i]?=some o→∀ j∈waits o,j<i:=fun i o hi=>(orderly_spec ho hi).1
 have hdst:∀ (j:Nat) (o:Oper),l.toArray[j]?=some o→dstOk n o.dst=true:=by
  intro j o hj
  cases hd:o.dst with
  | none=>rfl
  | some d=>exact Nat.ble_eq_true_of_le (((orderly_spec ho hj).2.1 d hd).1)
 have htab:∀ (i:Nat) (o:Oper),l.toArray[i]?=some o→Cs[i]?=some (lAt Cs i)∧(∀ j∈waits o,j∈lAt Cs i)∧(∀ j∈lAt Cs i,j<i)∧(m≤i→∀ j,j<i→j∈lAt Cs i):=by
  intro i o hi
  have ht':=ht
  simp only [tablesOk,Bool.and_eq_true,List.all_eq_true,List.mem_range] at ht'
  have hh:=ht'.2 i (Array.getElem?_eq_some_iff.1 hi).1
  rw [hi] at hh
  cases hW:Ws[i]? with
  | none=>rw [hW] at hh;simp at hh
  | some W =>
   cases hC:Cs[i]? with
   | none=>rw [hW,hC] at hh;simp at hh
   | some C =>
    rw [hW,hC] at hh
    simp only [Bool.and_eq_true,List.all_eq_true,beq_iff_eq] at hh
    obtain ⟨⟨⟨⟨h0,h1⟩,h2⟩,h3⟩,h4⟩:=hh
    rw [lAt_of hC]
    refine ⟨rfl,fun j hj=>by rw [h1] at hj;simpa using h2 j hj,fun j hj=>Nat.le_of_ble_eq_true (h0 j hj),fun hmi j hj=>?_⟩
    rw [Nat.ble_eq_true_of_le hmi] at h4
    simp only [List.all_eq_true,List.mem_range] at h4
    simpa using h4 j hj
 have htake:∀ i,i<m→(∀ j∈lAt TO i,j∈lAt Cs i)∧(∀ j∈lAt Cs i,∀ k∈lAt Cs j,k∈lAt Cs i)∧(∀ i',i'<m→i≠i'→(∀ k∈lAt TI i,k∉lAt TI i')∧(∀ k∈lAt TO i,k∉lAt TO i')):=by
  intro i hi
  simp only [takesOk,List.all_eq_true,List.mem_range,Bool.and_eq_true,Bool.or_eq_true,beq_iff_eq] at htk
  obtain ⟨⟨h1,h2⟩,h3⟩:=htk i hi
  refine ⟨fun j hj=>by simpa using h1 j hj,fun j hj k hk=>by simpa using h2 j hj k hk,fun i' hi' hne=>?_⟩
  rcases h3 i' hi' with h | ⟨h4,h5⟩
  ·exact absurd h hne
  ·exact ⟨fun k hk=>by simpa using h4 k hk,fun k hk=>by simpa using h5 k hk⟩
 have hio':∀ i,i<l.length→∃ o,l.toArray[i]?=some o:=fun i hi=>⟨l[i],by simp [hi]⟩
 let Qf:=lift n S w0 (QN Q)
 let C:(Nat→Bool)→(Nat→Value)→World→Prop:=fun D xs w=>∃ gs:Xs,
  (∀ i,i<m→D i=true→factP sp Cs xs gs i) ∧
  ((D m=false∧St S w0 (stP m Cs TI TO sp L D xs gs) w) ∨
   ∃ t,1≤t∧m+t≤l.length∧(∀ i,m≤i→i<l.length→D i=decide (i<m+t))∧wpList P l.toArray Qf (l.drop (m+t)) (frameOf l.toArray xs (List.range (m+t)) a0) w)
 have hcur:∀ (xs gs:Xs) (j:Nat),factP sp Cs xs gs j→curP sp Cs xs gs j=xs j:=fun xs gs j h=>PS.cur_eq h
 -- the tail's beginning
 have hbegin:∀ (D:Nat→Bool) (xs gs:Xs) (w:World),(∀ j,j<m→D j=true)→(∀ i,i<m→D i=true→factP sp Cs xs gs i)→St S w0 (stP m Cs TI TO sp L D xs gs) w →
  wpList P l.toArray Qf (l.drop m) (frameOf l.toArray xs (List.range m) a0) w:=by
  intro D xs gs w hD hF Hs
  have hfs:∀ j,j<m→factP sp Cs xs gs j:=fun j hj=>hF j hj (hD j hj)
  have ht1:∀ (T:List (List Nat)) (k:Nat),takenB T m D k=takenB T m (fun _=>true) k:=by
   intro T k
   unfold takenB
   rw [Bool.eq_iff_iff,List.any_eq_true,List.any_eq_true]
   constructor
   ·rintro ⟨i,hi,h⟩;exact ⟨i,hi,by simp only [Bool.and_eq_true] at h ⊢;exact ⟨trivial,h.2⟩⟩
   ·rintro ⟨i,hi,h⟩;exact ⟨i,hi,by simp only [Bool.and_eq_true] at h ⊢;exact ⟨hD i (List.mem_range.1 hi),h.2⟩⟩
  have e:stP m Cs TI TO sp L D xs gs=stP m Cs TI TO sp L (fun _=>true) xs gs:=by
   unfold stP
   rw [selI_congr (fun k=>by rw [ht1 TI k]) L 0,selO_congr (q':=fun j=>true&&!takenB TO m (fun _=>true) j) m 0 (fun j _ hj=>⟨by rw [ht1 TO j,hD j (by omega)],fun _=>rfl⟩)]
  rw [e] at Hs
  have hfr:frameOf l.toArray xs (List.range m) a0=frameOf l.toArray (curP sp Cs xs gs) (List.range m) a0:=frameOf_congr _ _ (fun j hj=>(hcur xs gs j (hfs j (List.mem_range.1 hj))).symm)
  rw [hfr]
  exact (hfin xs gs hfs).run _ w (Models.envP hdst _ hmod) Hs
 -- where the tail stands
 have htail:∀ (D:Nat→Bool) (xs:Nat→Value) (w:World) (i:Nat),m≤i→i≤l.length→(∀ j,j<i→D j=true)→(i<l.length→D i=false)→C D xs w →
  wpList P l.toArray Qf (l.drop i) (frameOf l.toArray xs (List.range i) a0) w:=by
  intro D xs w i h1 h2 hD hi hC
  obtain ⟨gs,hF,hC⟩:=hC
  by_cases hmi:i=m
  ·subst hmi
   rcases hC with ⟨_,Hs⟩ | ⟨t,ht1,ht2,ht3,_⟩
   ·exact hbegin D xs gs w hD hF Hs
   ·have:=ht3 i (Nat.le_refl _) (by omega)
    rw [hi (by omega)] at this
    simp at this
    omega
  ·rcases hC with ⟨hm0,_⟩ | ⟨t,ht1,ht2,ht3,hw⟩
   ·rw [hD m (by omega)] at hm0;cases hm0
   ·have ha:=ht3 (i-1) (by omega) (by omega)
    rw [hD (i-1) (by omega)] at ha
    have ha':i-1<m+t:=by simpa using ha.symm
    have hb:m+t=i:=by
     by_cases hil:i<l.length
     ·have hb:=ht3 i (by omega) hil
      rw [hi hil] at hb
      have hb':¬ (i<m+t):=by simpa using hb.symm
      omega
     ·omega
    rw [hb] at hw
    exact hw
 refine wp_region_factsZ (C:=C) (F:=fun _ _ _=>True) (Z:=zQ S w0 Q) hmix ho hn (fun ch a w hs hd ⟨M,h1,h2⟩=>⟨[],M,⟨hs,hd.trans hmod.defers,fun t v h=>by cases h⟩,h1,h2 []⟩) (fun vs=>⟨fun _=>undef,fun i _ h=>absurd h Bool.false_ne_true,.inl ⟨rfl,?_⟩⟩) ?_ ?_
 ·have e1:∀ k,takenB TI m (fun _=>false) k=false:=by intro k;simp [takenB]
  have e2:∀ (L:List Res) (k:Nat),selI (fun k=>!takenB TI m (fun _=>false) k) k L=L:=by
   intro L
   induction L with
   | nil=>intro k;rfl
   | cons r L ih=>intro k;unfold selI;rw [e1 k];simp only [Bool.not_false];rw [ih (k+1)]
  have e3:∀ (m' k:Nat),selO (fun j=>false&&!takenB TO m (fun _=>false) j) (ownP sp Cs vs fun _=>undef) k m'=[]:=by
   intro m'
   induction m' with
   | zero=>intro k;rfl
   | succ m' ih=>intro k;unfold selO;exact ih (k+1)
  unfold stP
  rw [e2,e3,List.append_nil]
  exact H.drew
 ·intro i o hio D xs w hDi hDw hcl2 hC _
  have hil:i<l.length:=by simpa using (Array.getElem?_eq_some_iff.1 hio).1
  obtain ⟨hCl,hWC,hCi,htl⟩:=htab i o hio
  have hClD:∀ j∈lAt Cs i,D j=true:=clos ht hlt hio hCl hDw hcl2
  -- those that are done wait for none that is not
  have hup:∀ (k:Nat) (ok:Oper),l.toArray[k]?=some ok→D k=true→i∉lAt Cs k:=by
   intro k ok hk hDk hin
   obtain ⟨hCk,_,_,_⟩:=htab k ok hk
   have:=clos ht hlt hk hCk (hcl2 k ok hk hDk) hcl2 i hin
   rw [hDi] at this
   cases this
  by_cases him:i<m
  ·obtain ⟨gs,hF,hCC⟩:=hC
   have hDm:D m=false∧St S w0 (stP m Cs TI TO sp L D xs gs) w:=by
    rcases hCC with h | ⟨t,ht1,ht2,ht3,_⟩
    ·exact h
    ·exfalso
     have h0:=ht3 m (Nat.le_refl _) (by omega)
     have hDm:D m=true:=by rw [h0];simp;omega
     have hmo:l.toArray[m]?=some (l[m]'(by omega)):=by simp
     exact hup m _ hmo hDm ((htab m _ hmo).2.2.2 (Nat.le_refl _) i him)
   obtain ⟨hDm,Hs⟩:=hDm
   obtain ⟨hTO,hCC2,hTd⟩:=htake i him
   let xs':Xs:=mask (lAt Cs i) xs
   let gs':Xs:=mask (lAt Cs i) gs
   have hsame:∀ j∈lAt Cs i,mask (lAt Cs j) xs'=mask (lAt Cs j) xs∧mask (lAt Cs j) gs'=mask (lAt Cs j) gs∧xs' j=xs j∧gs' j=gs j :=
    fun j hj=>⟨mask_mask (hCC2 j hj),mask_mask (hCC2 j hj),mask_in hj,mask_in hj⟩
   have hfact':∀ j∈lAt Cs i,factP sp Cs xs' gs' j:=by
    intro j hj
    obtain ⟨a,b,c,d⟩:=hsame j hj
    unfold factP
    rw [a,b,c,d]
    exact hF j (by have:=hCi j hj;omega) (hClD j hj)
   have hown':∀ j∈lAt Cs i,ownP sp Cs xs' gs' j=ownP sp Cs xs gs j:=by
    intro j hj
    obtain ⟨a,b,c,d⟩:=hsame j hj
    unfold ownP
    rw [a,b,c,d]
   have hlo:l[i]?=some o:=by simpa using hio
   have hobl:=hq i o him hlo xs' gs' hfact'
   -- the frame
   let vs:Nat→Value:=curP sp Cs xs' gs'
   have hvs:∀ j∈waits o,xs j=vs j:=by
    intro j hj
    have hj':=hWC j hj
    show xs j=curP sp Cs xs' gs' j
    rw [hcur xs' gs' j (hfact' j hj')]
    exact (hsame j hj').2.2.1.symm
   have hfw:frameOf l.toArray xs (waits o) a0=frameOf l.toArray vs (waits o) a0:=frameOf_congr _ _ hvs
   obtain ⟨hex,hwa⟩:=wp_alike ho hn vs hio
   have hmw:Models n (envP l.toArray vs (List.range i) env) (frameOf l.toArray vs (List.range i) a0):=Models.envP hdst _ hmod
   -- what is owned
   have havI:∀ k,(lAt TI i).contains k=true→takenB TI m D k=false:=by
    intro k hk
    cases h:takenB TI m D k with
    | false=>rfl
    | true =>
     unfold takenB at h
     obtain ⟨i',hi',h2⟩:=List.any_eq_true.1 h
     simp only [Bool.and_eq_true] at h2
     have hne:i≠i':=by rintro rfl;rw [hDi] at h2;cases h2.1
     exact absurd (by simpa using h2.2) (((hTd i' (List.mem_range.1 hi') hne).1) k (by simpa using hk))
   have havO:∀ k,(lAt TO i).contains k=true→takenB TO m D k=false:=by
    intro k hk
    cases h:takenB TO m D k with
    | false=>rfl
    | true =>
     unfold takenB at h
     obtain ⟨i',hi',h2⟩:=List.any_eq_true.1 h
     simp only [Bool.and_eq_true] at h2
     have hne:i≠i':=by rintro rfl;rw [hDi] at h2;cases h2.1
     exact absurd (by simpa using h2.2) (((hTd i' (List.mem_range.1 hi') hne).2) k (by simpa using hk))
   have hwt:∀ (T:List (List Nat)) (k:Nat),waitsB T Cs m i k=true→takenB T m D k=false∧(lAt T i).contains k=false:=by
    intro T k hk
    simp only [waitsB,List.all_eq_true,List.mem_range,Bool.or_eq_true,Bool.not_eq_true'] at hk
    constructor
    ·cases h:takenB T m D k with
     | false=>rfl
     | true =>
      unfold takenB at h
      obtain ⟨i',hi',h2⟩:=List.any_eq_true.1 h
      simp only [Bool.and_eq_true] at h2
      rcases hk i' (List.mem_range.1 hi') with h3 | h3
      ·rw [h3] at h2;cases h2.2
      ·obtain ⟨o',ho'⟩:=hio' i' (by have:=List.mem_range.1 hi';omega)
       exact absurd (by simpa using h3) (hup i' o' ho' h2.1)
    ·rcases hk i him with h3 | h3
     ·exact h3
     ·exact absurd (hCi i (by simpa using h3)) (Nat.lt_irrefl _)
   let rI:Nat→Bool:=fun k=>!takenB TI m D k&&!(lAt TI i).contains k&&!waitsB TI Cs m i k
   let rO:Nat→Bool:=fun k=>D k&&!takenB TO m D k&&!(lAt TO i).contains k&&!((lAt Cs i).contains k&&waitsB TO Cs m i k)
   let cI:Nat→Bool:=fun k=>waitsB TI Cs m i k
   let cO:Nat→Bool:=fun k=>(lAt Cs i).contains k&&waitsB TO Cs m i k
   let pI:Nat→Bool:=fun k=>(lAt TI i).contains k
   let pO:Nat→Bool:=fun k=>(lAt TO i).contains k
   let RR:List Res:=selI rI 0 L++selO rO (ownP sp Cs xs gs) 0 m
   have hpre:preP m Cs TI TO sp L i xs' gs'=selI pI 0 L++selO pO (ownP sp Cs xs gs) 0 m:=by
    unfold preP
    rw [selO_congr (q':=pO) (ow':=ownP sp Cs xs gs) m 0 (fun j _ _=>⟨rfl,fun h=>hown' j (hTO j (by have h':(lAt TO i).contains j=true:=h;simpa using h'))⟩)]
   have hctx:ctxP m Cs TI TO sp L i xs' gs'=selI cI 0 L++selO cO (ownP sp Cs xs gs) 0 m:=by
    unfold ctxP
    rw [selO_congr (q':=cO) (ow':=ownP sp Cs xs gs) m 0 (fun j _ _=>⟨rfl,fun h=>hown' j (by have h':((lAt Cs i).contains j&&waitsB TO Cs m i j)=true:=h;simp only [Bool.and_eq_true] at h';simpa using h'.1)⟩)]
   have hI1:(selI (fun k=>!takenB TI m D k) 0 L).Perm (selI pI 0 L++(selI cI 0 L++selI rI 0 L)):=by
    refine (selI_split (a:=pI) (b:=fun k=>cI k||rI k) ?_ ?_ L 0).trans ((selI_split (a:=cI) (b:=rI) (fun k=>rfl) ?_ L 0).append_left _)
    ·intro k
     show (!takenB TI m D k)=((lAt TI i).contains k||(waitsB TI Cs m i k||(!takenB TI m D k&&!(lAt TI i).contains k&&!waitsB TI Cs m i k)))
     cases hp:(lAt TI i).contains k with
     | true=>rw [havI k hp];rfl
     | false =>
      cases hc:waitsB TI Cs m i k with
      | true=>rw [(hwt TI k hc).1];rfl
      | false=>cases takenB TI m D k<;>rfl
    ·intro k hp
     show (waitsB TI Cs m i k||(!takenB TI m D k&&!(lAt TI i).contains k&&!waitsB TI Cs m i k))=false
     have hp':(lAt TI i).contains k=true:=hp
     rw [hp']
     cases hc:waitsB TI Cs m i k with
     | true=>rw [(hwt TI k hc).2] at hp';cases hp'
     | false=>cases takenB TI m D k<;>rfl
    ·intro k hc
     show (!takenB TI m D k&&!(lAt TI i).contains k&&!waitsB TI Cs m i k)=false
     rw [show waitsB TI Cs m i k=true from hc]
     simp
   have hO1:(selO (fun j=>D j&&!takenB TO m D j) (ownP sp Cs xs gs) 0 m).Perm (selO pO (ownP sp Cs xs gs) 0 m++(selO cO (ownP sp Cs xs gs) 0 m++selO rO (ownP sp Cs xs gs) 0 m)):=by
    refine (selO_split (a:=pO) (b:=fun k=>cO k||rO k) ?_ ?_ m 0).trans ((selO_split (a:=cO) (b:=rO) (fun k=>rfl) ?_ m 0).append_left _)
    ·intro k
     show (D k&&!takenB TO m D k)=((lAt TO i).contains k||(((lAt Cs i).contains k&&waitsB TO Cs m i k)||(D k&&!takenB TO m D k&&!(lAt TO i).contains k&&!((lAt Cs i).contains k&&waitsB TO Cs m i k))))
     cases hp:(lAt TO i).contains k with
     | true=>rw [havO k hp,hClD k (hTO k (by simpa using hp))];rfl
     | false =>
      cases hc:((lAt Cs i).contains k&&waitsB TO Cs m i k) with
      | true =>
       simp only [Bool.and_eq_true] at hc
       rw [(hwt TO k hc.2).1,hClD k (by simpa using hc.1)]
       rfl
      | false=>cases D k<;>cases takenB TO m D k<;>rfl
    ·intro k hp
     show (((lAt Cs i).contains k&&waitsB TO Cs m i k)||(D k&&!takenB TO m D k&&!(lAt TO i).contains k&&!((lAt Cs i).contains k&&waitsB TO Cs m i k)))=false
     have hp':(lAt TO i).contains k=true:=hp
     rw [hp']
     cases hc:waitsB TO Cs m i k with
     | true=>rw [(hwt TO k hc).2] at hp';cases hp'
     | false=>simp
    ·intro k hc
     show (D k&&!takenB TO m D k&&!(lAt TO i).contains k&&!((lAt Cs i).contains k&&waitsB TO Cs m i k))=false
     rw [show ((lAt Cs i).contains k&&waitsB TO Cs m i k)=true from hc]
     simp
   have Hs':St S w0 (preP m Cs TI TO sp L i xs' gs'++(ctxP m Cs TI TO sp L i xs' gs'++RR)) w:=by
    rw [hpre,hctx]
    exact Hs.perm ((hI1.append hO1).trans (perm6 _ _ _ _ _ _))
   have hnew:∀ v g w',(psAt sp i).fact xs' gs' v g→St S w0 ((psAt sp i).own xs' gs' v g++(ctxP m Cs TI TO sp L i xs' gs'++RR)) w'→C (also D i) (came xs i v) w':=by
    intro v g w' hv Hn
    have hmk:∀ k,(D k=true∨k=i)→k<m→mask (lAt Cs k) (came xs i v)=mask (lAt Cs k) xs∧mask (lAt Cs k) (came gs i g)=mask (lAt Cs k) gs:=by
     intro k hk hkm
     have hnin:i∉lAt Cs k:=by
      obtain ⟨ok,hok⟩:=hio' k (by omega)
      rcases hk with hk | rfl
      ·exact hup k ok hok hk
      ·intro h;exact absurd (hCi k h) (Nat.lt_irrefl _)
     constructor<;>refine mask_congr fun j hj=>?_<;>(unfold came;rw [if_neg (by rintro rfl;exact hnin hj)])
    have hother:∀ (us:Nat→Value) (u:Value) k,k≠i→came us i u k=us k:=fun us u k hk=>by unfold came;rw [if_neg hk]
    have hself:∀ (us:Nat→Value) (u:Value),came us i u i=u:=fun us u=>by simp [came]
    have hal:∀ k,also D i k=(k==i||D k):=fun _=>rfl
    refine ⟨came gs i g,?_,.inl ⟨?_,?_⟩⟩
    ·intro k hk hDk
     by_cases hki:k=i
     ·subst hki
      unfold factP
      rw [(hmk k (.inr rfl) hk).1,(hmk k (.inr rfl) hk).2,hself,hself]
      exact hv
     ·have hDk':D k=true:=by rw [hal] at hDk;simpa [hki] using hDk
      unfold factP
      rw [(hmk k (.inl hDk') hk).1,(hmk k (.inl hDk') hk).2,hother _ _ k hki,hother _ _ k hki]
      exact hF k hk hDk'
    ·rw [hal,hDm];simp;omega
    ·have hown1:∀ k,k<m→k≠i→D k=true→ownP sp Cs (came xs i v) (came gs i g) k=ownP sp Cs xs gs k:=by
      intro k hk hki hDk
      unfold ownP
      rw [(hmk k (.inl hDk) hk).1,(hmk k (.inl hDk) hk).2,hother _ _ k hki,hother _ _ k hki]
     have hown2:ownP sp Cs (came xs i v) (came gs i g) i=(psAt sp i).own xs' gs' v g:=by
      unfold ownP
      rw [(hmk i (.inr rfl) him).1,(hmk i (.inr rfl) him).2,hself,hself]
     have htaken:∀ (T:List (List Nat)) k,takenB T m (also D i) k=(takenB T m D k||(lAt T i).contains k):=by
      intro T k
      rw [Bool.eq_iff_iff,Bool.or_eq_true]
      unfold takenB
      rw [List.any_eq_true,List.any_eq_true]
      constructor
      ·rintro ⟨i',hi',h⟩
       simp only [Bool.and_eq_true,hal,Bool.or_eq_true,beq_iff_eq] at h
       rcases h.1 with rfl | h1
       ·exact .inr h.2
       ·exact .inl ⟨i',hi',by simp only [Bool.and_eq_true];exact ⟨h1,h.2⟩⟩
      ·rintro (⟨i',hi',h⟩ | h)
       ·simp only [Bool.and_eq_true] at h
        exact ⟨i',hi',by simp only [Bool.and_eq_true,hal,Bool.or_eq_true];exact ⟨.inr h.1,h.2⟩⟩
       ·exact ⟨i,List.mem_range.2 him,by simp only [Bool.and_eq_true,hal,Bool.or_eq_true,beq_self_eq_true];exact ⟨.inl trivial,h⟩⟩
     have htoi:takenB TO m D i=false∧(lAt TO i).contains i=false:=by
      constructor
      ·cases h:takenB TO m D i with
       | false=>rfl
       | true =>
        unfold takenB at h
        obtain ⟨i',hi',h2⟩:=List.any_eq_true.1 h
        simp only [Bool.and_eq_true] at h2
        have hi'm:=List.mem_range.1 hi'
        obtain ⟨o',ho'⟩:=hio' i' (by omega)
        exact absurd ((htake i' hi'm).1 i (by simpa using h2.2)) (hup i' o' ho' h2.1)
      ·cases h:(lAt TO i).contains i with
       | false=>rfl
       | true=>exact absurd (hCi i (hTO i (by simpa using h))) (Nat.lt_irrefl _)
     have hI2:(selI (fun k=>!takenB TI m (also D i) k) 0 L).Perm ([]++(selI cI 0 L++selI rI 0 L)):=by
      rw [List.nil_append]
      refine selI_split ?_ ?_ L 0
      ·intro k
       show (!takenB TI m (also D i) k)=(waitsB TI Cs m i k||(!takenB TI m D k&&!(lAt TI i).contains k&&!waitsB TI Cs m i k))
       rw [htaken]
       cases hc:waitsB TI Cs m i k with
       | true=>rw [(hwt TI k hc).1,(hwt TI k hc).2];rfl
       | false=>cases takenB TI m D k<;>cases (lAt TI i).contains k<;>rfl
      ·intro k hc
       show (!takenB TI m D k&&!(lAt TI i).contains k&&!waitsB TI Cs m i k)=false
       rw [show waitsB TI Cs m i k=true from hc]
       simp
     have hO2:(selO (fun j=>also D i j&&!takenB TO m (also D i) j) (ownP sp Cs (came xs i v) (came gs i g)) 0 m).Perm ((psAt sp i).own xs' gs' v g++(selO cO (ownP sp Cs xs gs) 0 m++selO rO (ownP sp Cs xs gs) 0 m)):=by
      have hsp1:=selO_split (q:=fun j=>also D i j&&!takenB TO m (also D i) j) (a:=fun j=>j==i) (b:=fun k=>cO k||rO k) (ow:=ownP sp Cs (came xs i v) (came gs i g)) (by
       intro k
       show (also D i k&&!takenB TO m (also D i) k)=((k==i)||(((lAt Cs i).contains k&&waitsB TO Cs m i k)||(D k&&!takenB TO m D k&&!(lAt TO i).contains k&&!((lAt Cs i).contains k&&waitsB TO Cs m i k))))
       rw [htaken,hal]
       by_cases hki:k=i
       ·subst hki
        rw [htoi.1,htoi.2]
        simp
       ·rw [show (k==i)=false by simp;exact hki]
        cases hc:((lAt Cs i).contains k&&waitsB TO Cs m i k) with
        | true =>
         simp only [Bool.and_eq_true] at hc
         rw [(hwt TO k hc.2).1,(hwt TO k hc.2).2,hClD k (by simpa using hc.1)]
         rfl
        | false=>cases D k<;>cases takenB TO m D k<;>cases (lAt TO i).contains k<;>rfl) (by
       intro k hk
       have hki:k=i:=by simpa using hk
       subst hki
       show (((lAt Cs k).contains k&&waitsB TO Cs m k k)||(D k&&!takenB TO m D k&&!(lAt TO k).contains k&&!((lAt Cs k).contains k&&waitsB TO Cs m k k)))=false
       rw [hDi,show (lAt Cs k).contains k=false by
        cases h:(lAt Cs k).contains k with
        | false=>rfl
        | true=>exact absurd (hCi k (by simpa using h)) (Nat.lt_irrefl _)]
       rfl) m 0
      rw [selO_one m 0 (Nat.zero_le _) (by omega),hown2] at hsp1
      refine hsp1.trans (List.Perm.append_left _ ?_)
      have hb:selO (fun k=>cO k||rO k) (ownP sp Cs (came xs i v) (came gs i g)) 0 m=selO (fun k=>cO k||rO k) (ownP sp Cs xs gs) 0 m:=by
       refine selO_congr m 0 (fun j _ hj=>⟨rfl,fun h=>?_⟩)
       have hDj:D j=true∧j≠i:=by
        have h':(((lAt Cs i).contains j&&waitsB TO Cs m i j)||(D j&&!takenB TO m D j&&!(lAt TO i).contains j&&!((lAt Cs i).contains j&&waitsB TO Cs m i j)))=true:=h
        simp only [Bool.or_eq_true,Bool.and_eq_true] at h'
        rcases h' with h' | h'
        ·have:j∈lAt Cs i:=by simpa using h'.1
         exact ⟨hClD j this,by have:=hCi j this;omega⟩
        ·refine ⟨h'.1.1.1,?_⟩
         rintro rfl
         rw [hDi] at h'
         cases h'.1.1.1
       exact hown1 j (by omega) hDj.2 hDj.1
      rw [hb]
      refine selO_split (fun k=>rfl) ?_ m 0
      intro k hc
      show (D k&&!takenB TO m D k&&!(lAt TO i).contains k&&!((lAt Cs i).contains k&&waitsB TO Cs m i k))=false
      rw [show ((lAt Cs i).contains k&&waitsB TO Cs m i k)=true from hc]
      simp
     refine Hn.perm ?_
     rw [hctx]
     unfold stP
     exact (((hI2.append hO2).trans (perm6 _ _ _ _ _ _)).symm)
   -- what the operation does
   rw [hfw,← hwa]
   rcases hobl with ⟨hmet,hqt⟩ | ⟨hun,g,hg1,hg2⟩ | ⟨hmet,hqx⟩
   ·rw [if_pos (hmet.wanted hmw)]
    have hwp:=hqt.run _ w RR hmw Hs'
    unfold Oper.wp at hwp ⊢
    rw [hex] at hwp
    refine upon_imp hwp ?_ ?_
    ·rintro v w' ⟨u,g,h1,h2,h3,h4⟩
     have hsz:∀ d,o.dst=some d→d<n:=fun d hd=>((orderly_spec ho hio).2.1 d hd).1
     have hu:=put_value (o:=o) (n:=n) (a:=frameOf l.toArray vs (List.range i) a0) hsz (by rw [frameOf_size];exact hn) h1 h2
     have hu2:valOf o ((frameOf l.toArray vs (waits o) a0).put o.dst v)=u:=by
      rw [← hu]
      unfold valOf
      cases hd:o.dst with
      | none=>rfl
      | some d=>exact (put_getD_same (by rw [frameOf_size,hn];exact hsz d hd)).trans (put_getD_same (by rw [frameOf_size,hn];exact hsz d hd)).symm
     rw [hu2]
     exact ⟨by rw [put_defs,frameOf_defers],hnew u g w' h3 h4,fun _ _ _=>trivial,trivial⟩
    ·rintro d w' ⟨u,g,h1,_⟩
     have h5:=congrArg Act.defers h1
     rw [put_defs,put_defs] at h5
     have h6:=congrArg List.length h5
     simp at h6
   ·rw [hun.wanted hmw]
    simp only [Bool.false_eq_true,if_false]
    exact ⟨hnew undef g w hg1 (by rw [hg2];exact Hs'),trivial⟩
   ·rw [if_pos (hmet.wanted hmw)]
    have hwp:=hqx.run _ w RR hmw Hs'
    unfold Oper.wp at hwp ⊢
    rw [hex] at hwp
    exact upon_impZ hwp (fun _ _ h=>h.elim) (fun _ _ h=>h) (fun _ _ h=>h.elim)
  ·-- one of the tail
   have hall:∀ j,j<i→D j=true:=fun j hj=>hClD j (htl (by omega) j hj)
   have hw:=htail D xs w i (by omega) (by omega) hall (fun _=>hDi) hC
   obtain ⟨gs,hF,_⟩:=hC
   have hdrop:l.drop i=o::l.drop (i+1):=by
    rw [List.drop_eq_getElem_cons hil]
    congr 1
    have h1:l[i]?=some o:=by simpa using hio
    exact (List.getElem?_eq_some_iff.1 h1).2
   rw [hdrop] at hw
   obtain ⟨hex,hwa⟩:=wp_alike ho hn xs hio
   have hnew:∀ v w',(o.dst=none→v=undef)→wpList P l.toArray Qf (l.drop (i+1)) ((frameOf l.toArray xs (List.range i) a0).put o.dst v) w'→C (also D i) (came xs i v) w':=by
    intro v w' hv hk
    have hne:∀ k,k≠i→also D i k=D k:=by
     intro k hk
     unfold also
     have hb:(k==i)=false:=by simp [hk]
     rw [hb];rfl
    refine ⟨gs,?_,.inr ⟨i-m+1,by omega,by omega,?_,?_⟩⟩
    ·intro k hk hDk
     have hki:k≠i:=by omega
     rw [hne k hki] at hDk
     have hnin:i∉lAt Cs k:=by
      obtain ⟨ok,hok⟩:=hio' k (by omega)
      exact hup k ok hok hDk
     unfold factP
     rw [show mask (lAt Cs k) (came xs i v)=mask (lAt Cs k) xs from mask_congr fun j hj=>by unfold came;rw [if_neg (by rintro rfl;exact hnin hj)],show came xs i v k=xs k by unfold came;rw [if_neg hki]]
     exact hF k hk hDk
    ·intro k hmk hkl
     by_cases hki:k=i
     ·subst hki
      have:also D k k=true:=by simp [also]
      rw [this];symm;simp;omega
     ·rw [hne k hki]
      by_cases hlt':k<i
      ·rw [hall k hlt'];symm;simp;omega
      ·have hDk:D k=false:=by
        cases hd:D k with
        | false=>rfl
        | true =>
         have hko:l.toArray[k]?=some (l[k]'hkl):=by simp [hkl]
         exact absurd ((htab k _ hko).2.2.2 hmk i (by omega)) (hup k _ hko hd)
       rw [hDk];symm;simp;omega
    ·rw [show m+(i-m+1)=i+1 by omega,List.range_succ,frameOf_append]
     have e1:frameOf l.toArray (came xs i v) (List.range i) a0=frameOf l.toArray xs (List.range i) a0 :=
      frameOf_congr _ _ (fun j hj=>by unfold came;rw [if_neg (by have:=List.mem_range.1 hj;omega)])
     rw [e1]
     have e2:(l.toArray[i]?).bind (·.dst)=o.dst:=by rw [hio];rfl
     have e3:came xs i v i=v:=by simp [came]
     show wpList P l.toArray Qf _ ((frameOf l.toArray xs (List.range i) a0).put ((l.toArray[i]?).bind (·.dst)) (came xs i v i)) w'
     rw [e2,e3]
     exact hk
   unfold wpList at hw
   rw [hwa] at hw
   split
   ·rename_i hwt
    rw [if_pos hwt] at hw
    rcases hw with hw | ⟨_,hw⟩
    ·unfold Oper.wp at hw ⊢
     rw [hex] at hw
     refine upon_impZ (upon_zQ hw) ?_ (fun _ _ h=>h) ?_
     ·intro v w' hk
      have hsz:∀ d,o.dst=some d→d<n:=fun d hd=>((orderly_spec ho hio).2.1 d hd).1
      cases hd:o.dst with
      | none =>
       rw [hd] at hk
       have hv:valOf o ((frameOf l.toArray xs (waits o) a0).put none v)=undef:=by unfold valOf;rw [hd]
       rw [hv]
       exact ⟨by rw [put_defs,frameOf_defers],hnew undef w' (fun _=>rfl) (by rw [hd];exact hk),fun _ _ _=>trivial,trivial⟩
      | some d =>
       have hv:valOf o ((frameOf l.toArray xs (waits o) a0).put (some d) v)=v:=by
        unfold valOf
        rw [hd]
        exact put_getD_same (by rw [frameOf_size,hn];exact hsz d hd)
       rw [hv]
       exact ⟨by rw [put_defs,frameOf_defers],hnew v w' (fun h=>by rw [hd] at h;cases h) hk,fun _ _ _=>trivial,trivial⟩
     ·intro d w' hk
      exact no_defers _ _ _ (by rw [put_defs];simp) hk
    ·exact (no_out hw).elim
   ·rename_i hwt
    rw [if_neg hwt] at hw
    exact ⟨hnew undef w (fun _=>rfl) hw,trivial⟩
 ·intro D xs w hD hC _
  have hw:=htail D xs w l.length hml (Nat.le_refl _) (fun j hj=>hD j (by simpa using hj)) (fun h=>absurd h (Nat.lt_irrefl _)) hC
  rw [List.drop_length] at hw
  obtain ⟨env',L',h1,h2,h3⟩:=hw
  refine ⟨env',L',?_,h2,h3⟩
  simpa using h1
abbrev AkP:=List (Nat × List Nat × (Xs→Xs→Value→Value→Prop) × (Xs→Xs→Value→Value→List Res))
def factsAP (C:List Nat) (xs gs:Xs):AkP→Prop
 | []=>True
 | (j,Cj,F,_)::r=>(C.contains j=true→F (mask Cj xs) (mask Cj gs) (xs j) (gs j))∧factsAP C xs gs r
def ownsA (q:Nat→Bool) (xs gs:Xs):AkP→List Res
 | []=>[]
 | (j,Cj,_,N)::r=>match q j with
  | true=>N (mask Cj xs) (mask Cj gs) (xs j) (gs j)++ownsA q xs gs r
  | false=>ownsA q xs gs r
def factsTP (xs gs:Xs):AkP→Prop
 | []=>True
 | (j,Cj,F,_)::r=>F (mask Cj xs) (mask Cj gs) (xs j) (gs j)∧factsTP xs gs r
def PS.ak (k:Nat) (C:List Nat):PS→AkP
 | .val _=>[]
 | .any F N=>[(k,C,F,N)]
def akP (Cs:List (List Nat)):Nat→List PS→AkP
 | _,[]=>[]
 | k,s::r=>s.ak k (lAt Cs k)++akP Cs (k+1) r
abbrev T5:=List Nat × List Nat × List Nat × List Nat × List Nat
def quietsP (P:Program) (n:Nat) (S:List Nat) (w0:World) (Z:List PanicEntry→World→Prop) (ops:Array Oper) (L:List Res) (F:(Xs→Xs→Env)→AkP→Prop):Nat→List Oper→List T5→(Xs→Xs→Env)→AkP→Prop
 | k,o::r,(C,ti,to,xi,xo)::Ts,E,A=>∃ s:PS,(∀ xs gs:Xs,factsAP C xs gs A →
  QPG P n S w0 Z ops o (E xs gs) (selI (fun j=>ti.contains j) 0 L++ownsA (fun j=>to.contains j) xs gs A) (selI (fun j=>xi.contains j) 0 L++ownsA (fun j=>xo.contains j) xs gs A) (s.fact xs gs) (s.own xs gs)) ∧
  quietsP P n S w0 Z ops L F (k+1) r Ts (fun xs gs=>ext o.dst (s.cur (mask C xs) (mask C gs) (xs k)) (E xs gs)) (A++s.ak k C)
 | _,[],_,E,A=>F E A
 | _,_,_,_,_=>False
def tAt:List T5→Nat→T5
 | [],_=>([],[],[],[],[])
 | c::r,k=>match k with | 0=>c | k+1=>tAt r k
def fivesOk (m nL:Nat) (Cs:List (List Nat)) (Ts:List T5):Bool :=
 (Ts.length==m)&&takesOk m Cs (Ts.map (·.2.1)) (Ts.map (·.2.2.1)) &&
 (List.range m).all fun i=>((tAt Ts i).1==lAt Cs i)&&((tAt Ts i).2.1==lAt (Ts.map (·.2.1)) i)&&((tAt Ts i).2.2.1==lAt (Ts.map (·.2.2.1)) i) &&
  ((List.range nL).all fun k=>(tAt Ts i).2.2.2.1.contains k==waitsB (Ts.map (·.2.1)) Cs m i k) &&
  ((List.range m).all fun j=>(tAt Ts i).2.2.2.2.contains j==((lAt Cs i).contains j&&waitsB (Ts.map (·.2.2.1)) Cs m i j))&&((tAt Ts i).2.2.2.2.all fun j=>Nat.ble (j+1) m)
theorem psAt_left:∀ (a b:List PS) (j:Nat),j<a.length→psAt (a++b) j=psAt a j
 | [],b,j,h=>by simp at h
 | s::a,b,0,h=>rfl
 | s::a,b,j+1,h=>psAt_left a b j (by simpa using h)
theorem psAt_last:∀ (a:List PS) (s:PS) (b:List PS),psAt (a++s::b) a.length=s
 | [],s,b=>rfl
 | x::a,s,b=>psAt_last a s b
theorem psAt_of_le:∀ (sp:List PS) (k:Nat),sp.length≤k→psAt sp k=.val fun _ _=>undef
 | [],_,_=>rfl
 | s::r,0,h=>by simp at h
 | s::r,k+1,h=>psAt_of_le r k (by simpa using h)
theorem akP_append (Cs:List (List Nat)):∀ (a b:List PS) (k:Nat),akP Cs k (a++b)=akP Cs k a++akP Cs (k+a.length) b
 | [],b,k=>by simp [akP]
 | s::a,b,k=>by
  show s.ak k (lAt Cs k)++akP Cs (k+1) (a++b)=s.ak k (lAt Cs k)++akP Cs (k+1) a++akP Cs _ b
  rw [akP_append Cs a b (k+1),List.append_assoc,show k+1+a.length=k+(s::a).length by simp;omega]
theorem ownsA_of {q:Nat→Bool} {Cs:List (List Nat)} {xs gs:Xs}:∀ (sp pre:List PS) (m:Nat),sp.length≤m→selO q (ownP (pre++sp) Cs xs gs) pre.length m=ownsA q xs gs (akP Cs pre.length sp)
 | [],pre,m,h=>by
  have key:∀ (m k:Nat),pre.length≤k→selO q (ownP (pre++[]) Cs xs gs) k m=[]:=by
   intro m
   induction m with
   | zero=>intro k _;rfl
   | succ m ih =>
    intro k hk
    unfold selO
    rw [ih (k+1) (by omega)]
    have:ownP (pre++[]) Cs xs gs k=[]:=by unfold ownP;rw [List.append_nil,psAt_of_le pre k hk];rfl
    rw [this]
    cases q k<;>rfl
  exact key m _ (Nat.le_refl _)
 | s::r,pre,0,h=>by simp at h
 | s::r,pre,m+1,h=>by
  have ih:=ownsA_of (q:=q) (Cs:=Cs) (xs:=xs) (gs:=gs) r (pre++[s]) m (by simpa using h)
  rw [show pre++[s]++r=pre++s::r by simp,show (pre++[s]).length=pre.length+1 by simp] at ih
  unfold selO
  rw [ih]
  have h0:ownP (pre++s::r) Cs xs gs pre.length=s.own (mask (lAt Cs pre.length) xs) (mask (lAt Cs pre.length) gs) (xs pre.length) (gs pre.length):=by unfold ownP;rw [psAt_last]
  rw [h0]
  cases s with
  | val f =>
   show (match q pre.length with | true=>[]++ownsA q xs gs (akP Cs (pre.length+1) r) | false=>ownsA q xs gs (akP Cs (pre.length+1) r))=ownsA q xs gs (akP Cs (pre.length+1) r)
   cases q pre.length<;>rfl
  | any F N=>rfl
theorem factsAP_of {C:List Nat} {Cs:List (List Nat)} {xs gs:Xs}:∀ (sp pre:List PS),(∀ j,pre.length≤j→j<pre.length+sp.length→C.contains j=true→factP (pre++sp) Cs xs gs j)→factsAP C xs gs (akP Cs pre.length sp)
 | [],pre,_=>trivial
 | s::r,pre,h=>by
  have ih:=factsAP_of (C:=C) (Cs:=Cs) (xs:=xs) (gs:=gs) r (pre++[s]) (fun j h1 h2 hc=>by
   rw [show pre++[s]++r=pre++s::r by simp]
   simp only [List.length_append,List.length_singleton] at h1 h2
   exact h j (by omega) (by simp;omega) hc)
  rw [show (pre++[s]).length=pre.length+1 by simp] at ih
  cases s with
  | val f=>exact ih
  | any F N =>
   refine ⟨fun hc=>?_,ih⟩
   have:=h pre.length (Nat.le_refl _) (by simp) hc
   unfold factP at this
   rw [psAt_last] at this
   exact this
theorem factsTP_of {Cs:List (List Nat)} {xs gs:Xs}:∀ (sp pre:List PS),(∀ j,pre.length≤j→j<pre.length+sp.length→factP (pre++sp) Cs xs gs j)→factsTP xs gs (akP Cs pre.length sp)
 | [],pre,_=>trivial
 | s::r,pre,h=>by
  have ih:=factsTP_of (Cs:=Cs) (xs:=xs) (gs:=gs) r (pre++[s]) (fun j h1 h2=>by
   rw [show pre++[s]++r=pre++s::r by simp]
   simp only [List.length_append,List.length_singleton] at h1 h2
   exact h j (by omega) (by simp;omega))
  rw [show (pre++[s]).length=pre.length+1 by simp] at ih
  cases s with
  | val f=>exact ih
  | any F N =>
   refine ⟨?_,ih⟩
   have:=h pre.length (Nat.le_refl _) (by simp)
   unfold factP at this
   rw [psAt_last] at this
   exact this
theorem envP_congr {ops:Array Oper} {cv cv':Nat→Value}:∀ (W:List Nat) (env:Env),(∀ j∈W,cv j=cv' j)→envP ops cv W env=envP ops cv' W env
 | [],env,_=>rfl
 | j::W,env,h=>by
  unfold envP
  rw [h j (by simp)]
  exact envP_congr W _ (fun k hk=>h k (by simp [hk]))
theorem envP_append {ops:Array Oper} {cv:Nat→Value}:∀ (l m:List Nat) (e:Env),envP ops cv (l++m) e=envP ops cv m (envP ops cv l e)
 | [],_,_=>rfl
 | j::l,m,e=>envP_append l m _
theorem curP_left {Cs:List (List Nat)} {xs gs:Xs} (a b:List PS) {j:Nat} (h:j<a.length):curP (a++b) Cs xs gs j=curP a Cs xs gs j:=by unfold curP;rw [psAt_left a b j h]
theorem quietsP_spec {Z:List PanicEntry→World→Prop} {ops:Array Oper} {Cs:List (List Nat)} {F:(Xs→Xs→Env)→AkP→Prop} {env0:Env}:∀ (r:List Oper) (Ts:List T5) (acc:List PS),(∀ i o,r[i]?=some o→ops[acc.length+i]?=some o)→(∀ i,i<r.length→(tAt Ts i).1=lAt Cs (acc.length+i))→Ts.length≤r.length →
 quietsP P n S w0 Z ops L F acc.length r Ts (fun xs gs=>envP ops (curP acc Cs xs gs) (List.range acc.length) env0) (akP Cs 0 acc) →
 ∃ t:List PS,t.length=r.length∧F (fun xs gs=>envP ops (curP (acc++t) Cs xs gs) (List.range (acc++t).length) env0) (akP Cs 0 (acc++t)) ∧
  ∀ i o,r[i]?=some o→∀ xs gs:Xs,factsAP (lAt Cs (acc.length+i)) xs gs (akP Cs 0 ((acc++t).take (acc.length+i)))→QPG P n S w0 Z ops o (envP ops (curP (acc++t) Cs xs gs) (List.range (acc.length+i)) env0)
   (selI (fun j=>(tAt Ts i).2.1.contains j) 0 L++ownsA (fun j=>(tAt Ts i).2.2.1.contains j) xs gs (akP Cs 0 ((acc++t).take (acc.length+i)))) (selI (fun j=>(tAt Ts i).2.2.2.1.contains j) 0 L++ownsA (fun j=>(tAt Ts i).2.2.2.2.contains j) xs gs (akP Cs 0 ((acc++t).take (acc.length+i)))) ((psAt (acc++t) (acc.length+i)).fact xs gs) ((psAt (acc++t) (acc.length+i)).own xs gs)
 | [],Ts,acc,_,_,hlen,h=>⟨[],rfl,by unfold quietsP at h;simpa using h,fun i o hi=>by simp at hi⟩
 | o::r,[],acc,hat,hcs,_,h=>by unfold quietsP at h;exact h.elim
 | o::r,(C,ti,to,xi,xo)::Ts,acc,hat,hcs,hlen,h=>by
  obtain ⟨s,h1,h2⟩:=h
  have hC:C=lAt Cs acc.length:=by have:=hcs 0 (by simp);simpa [tAt] using this
  have hE:(fun xs gs=>ext o.dst (s.cur (mask C xs) (mask C gs) (xs acc.length)) (envP ops (curP acc Cs xs gs) (List.range acc.length) env0))=fun xs gs=>envP ops (curP (acc++[s]) Cs xs gs) (List.range (acc++[s]).length) env0:=by
   funext xs gs
   rw [show (acc++[s]).length=acc.length+1 by simp,List.range_succ,envP_append,envP_congr (cv:=curP (acc++[s]) Cs xs gs) (cv':=curP acc Cs xs gs) (List.range acc.length) env0 (fun j hj=>curP_left acc [s] (List.mem_range.1 hj))]
   show _=ext ((ops[acc.length]?).bind (·.dst)) (curP (acc++[s]) Cs xs gs acc.length) _
   have h0:=hat 0 o rfl
   rw [Nat.add_zero] at h0
   rw [h0]
   unfold curP
   rw [psAt_last,hC]
   rfl
  have hA:akP Cs 0 acc++s.ak acc.length C=akP Cs 0 (acc++[s]):=by
   rw [akP_append,Nat.zero_add,hC]
   simp [akP]
  rw [hE,hA,show acc.length+1=(acc++[s]).length by simp] at h2
  obtain ⟨t,ht1,ht2,ht3⟩:=quietsP_spec r Ts (acc++[s]) (fun i o' hi=>by
   have:=hat (i+1) o' (by simpa using hi)
   rwa [show (acc++[s]).length+i=acc.length+(i+1) by simp;omega]) (fun i hi=>by
   have:=hcs (i+1) (by simpa using hi)
   rw [show (acc++[s]).length+i=acc.length+(i+1) by simp;omega]
   exact this) (by simpa using hlen) h2
  have e:acc++[s]++t=acc++s::t:=by simp
  rw [e] at ht2 ht3
  refine ⟨s::t,by simp [ht1],ht2,?_⟩
  intro i o' hi xs gs hx
  cases i with
  | zero =>
   simp only [List.getElem?_cons_zero,Option.some.injEq] at hi
   subst hi
   rw [Nat.add_zero] at hx ⊢
   rw [show (acc++s::t).take acc.length=acc by simp] at hx ⊢
   rw [psAt_last,envP_congr (cv:=curP (acc++s::t) Cs xs gs) (cv':=curP acc Cs xs gs) (List.range acc.length) env0 (fun j hj=>curP_left acc (s::t) (List.mem_range.1 hj))]
   exact h1 xs gs (by rw [hC];exact hx)
  | succ i =>
   have:=ht3 i o' (by simpa using hi) xs gs (by rwa [show (acc++[s]).length+i=acc.length+(i+1) by simp;omega])
   rwa [show (acc++[s]).length+i=acc.length+(i+1) by simp;omega] at this
theorem selI_congrL {q q':Nat→Bool}:∀ (L:List Res) (k:Nat),(∀ j,k≤j→j<k+L.length→q j=q' j)→selI q k L=selI q' k L
 | [],k,_=>rfl
 | r::L,k,h=>by
  unfold selI
  rw [h k (Nat.le_refl _) (by simp),selI_congrL L (k+1) (fun j h1 h2=>h j (by omega) (by simp;omega))]
theorem VC_drawQ {id:Nat} {l:List Oper} (m nL:Nat) (Ws Cs:List (List Nat)) (Ts:List T5) (fi fo:List Nat) (hmix:P.follows .mixedOrders=true) (hL:L.length=nL)
 (hok:(orderly l.toArray n&&tablesOk l.toArray m Ws Cs&&fivesOk m nL Cs Ts&&Nat.ble m l.length&&((List.range nL).all fun k=>fi.contains k==!takenB (Ts.map (·.2.1)) m (fun _=>true) k)&&((List.range m).all fun k=>fo.contains k==!takenB (Ts.map (·.2.2.1)) m (fun _=>true) k))=true)
 (hq:quietsP P n S w0 (zQ S w0 Q) l.toArray L (fun E A=>∀ xs gs:Xs,factsTP xs gs A→VL P n S w0 l.toArray (QN Q) (l.drop m) (E xs gs) (selI (fun k=>fi.contains k) 0 L++ownsA (fun k=>fo.contains k) xs gs A)) 0 (l.take m) Ts (fun _ _=>env) []) :
 VC P n S w0 (.region id l.toArray true) Q env L:=by
 simp only [Bool.and_eq_true,List.all_eq_true,List.mem_range,beq_iff_eq] at hok
 obtain ⟨⟨⟨⟨⟨ho,ht⟩,h5⟩,hml⟩,hfi⟩,hfo⟩:=hok
 have hml':=Nat.le_of_ble_eq_true hml
 simp only [fivesOk,Bool.and_eq_true,List.all_eq_true,List.mem_range,beq_iff_eq] at h5
 obtain ⟨⟨hTl,htk⟩,h5⟩:=h5
 have hlm:(l.take m).length=m:=by rw [List.length_take];omega
 obtain ⟨sp,hs1,hs2,hs3⟩:=quietsP_spec (Cs:=Cs) (env0:=env) (l.take m) Ts [] (fun i o hi=>by
  rw [List.getElem?_take] at hi
  split at hi
  ·simpa using hi
  ·cases hi) (fun i hi=>by
   have:=(h5 i (by omega)).1.1.1.1.1
   rw [List.length_nil,Nat.zero_add]
   exact this) (by omega) hq
 simp only [List.nil_append,List.length_nil,Nat.zero_add] at hs2 hs3
 have hl:sp.length=m:=by rw [hs1,hlm]
 have hak:∀ (i:Nat) (q:Nat→Bool) (xs gs:Xs),i≤m→(∀ j,q j=true→j<i)→selO q (ownP sp Cs xs gs) 0 m=ownsA q xs gs (akP Cs 0 (sp.take i)):=by
  intro i q xs gs him hqi
  have h1:=ownsA_of (q:=q) (Cs:=Cs) (xs:=xs) (gs:=gs) (sp.take i) [] m (by rw [List.length_take];omega)
  simp only [List.nil_append,List.length_nil] at h1
  rw [← h1]
  refine selO_congr m 0 (fun j _ _=>⟨rfl,fun hj=>?_⟩)
  have hji:=hqi j hj
  unfold ownP
  have:psAt sp j=psAt (sp.take i) j:=by
   conv=>lhs;rw [← List.take_append_drop i sp]
   exact psAt_left _ _ j (by rw [List.length_take];omega)
  rw [this]
 refine VC_drawP m sp Ws Cs (Ts.map (·.2.1)) (Ts.map (·.2.2.1)) hmix (by simp only [Bool.and_eq_true];exact ⟨⟨⟨ho,ht⟩,htk⟩,hml⟩) ?_ ?_
 ·intro i o him hio xs gs hx
  have hti:lAt Cs i=(tAt Ts i).1:=(h5 i him).1.1.1.1.1.symm
  have hCi:∀ j∈lAt Cs i,j<i:=by
   intro j hj
   have ht':=ht
   simp only [tablesOk,Bool.and_eq_true,List.all_eq_true,List.mem_range,beq_iff_eq] at ht'
   have hil:i<l.length:=by omega
   have hh:=ht'.2 i (by simpa using hil)
   have hlen:=ht'.1.1
   have hlen2:=ht'.1.2
   have hio2:l.toArray[i]?=some o:=by simpa using hio
   have hWi:Ws[i]?=some (Ws[i]'(by simp at hlen;omega)):=List.getElem?_eq_getElem _
   have hCi':Cs[i]?=some (Cs[i]'(by simp at hlen2;omega)):=List.getElem?_eq_getElem _
   rw [hio2,hWi,hCi'] at hh
   simp only [Bool.and_eq_true,List.all_eq_true,beq_iff_eq] at hh
   rw [lAt_of hCi'] at hj
   exact Nat.le_of_ble_eq_true (hh.1.1.1.1 j hj)
  have hob:=hs3 i o (by rw [List.getElem?_take,if_pos him];exact hio) xs gs (factsAP_of (Cs:=Cs) (sp.take i) [] (fun j _ hj hc=>by
   have hji:j<i:=by simp at hj;omega
   have:=hx j (by simpa using hc)
   unfold factP at this ⊢
   rw [List.nil_append]
   have e:psAt sp j=psAt (sp.take i) j:=by
    conv=>lhs;rw [← List.take_append_drop i sp]
    exact psAt_left _ _ j (by rw [List.length_take];omega)
   rwa [e] at this))
  obtain ⟨⟨⟨⟨⟨h51,h52⟩,h53⟩,h54⟩,h55⟩,h56⟩:=h5 i him
  have hTxo:∀ j,(tAt Ts i).2.2.2.2.contains j=true→j<m:=fun j hj=>Nat.le_of_ble_eq_true (h56 j (by simpa using hj))
  have htO:∀ j,(tAt Ts i).2.2.1.contains j=true→j<i:=by
   intro j hj
   rw [h53] at hj
   simp only [takesOk,List.all_eq_true,List.mem_range,Bool.and_eq_true] at htk
   exact hCi j (by simpa using (htk i him).1.1 j (by simpa using hj))
  have htX:∀ j,((lAt Cs i).contains j&&waitsB (Ts.map (·.2.2.1)) Cs m i j)=true→j<i:=by
   intro j hj
   simp only [Bool.and_eq_true] at hj
   exact hCi j (by simpa using hj.1)
  have hpre:preP m Cs (Ts.map (·.2.1)) (Ts.map (·.2.2.1)) sp L i xs gs=selI (fun j=>(tAt Ts i).2.1.contains j) 0 L++ownsA (fun j=>(tAt Ts i).2.2.1.contains j) xs gs (akP Cs 0 (sp.take i)):=by
   unfold preP
   rw [← h52,← h53,hak i _ xs gs (by omega) htO]
  have hctx:ctxP m Cs (Ts.map (·.2.1)) (Ts.map (·.2.2.1)) sp L i xs gs=selI (fun j=>(tAt Ts i).2.2.2.1.contains j) 0 L++ownsA (fun j=>(tAt Ts i).2.2.2.2.contains j) xs gs (akP Cs 0 (sp.take i)):=by
   unfold ctxP
   rw [← hak i (fun j=>(tAt Ts i).2.2.2.2.contains j) xs gs (by omega) (fun j hj=>by
    by_cases hjm:j<m
    ·rw [h55 j hjm] at hj;exact htX j hj
    ·exfalso
     exact hjm (hTxo j hj)),selI_congrL L 0 (fun k _ hk=>h54 k (by omega))]
   congr 1
   exact (selO_congr m 0 (fun j _ hj=>⟨h55 j (by omega),fun _=>rfl⟩)).symm
  rw [hpre,hctx]
  exact hob
 ·intro xs gs hx
  have h:=hs2 xs gs (factsTP_of (Cs:=Cs) sp [] (fun j _ hj=>hx j (by simp at hj;omega)))
  rw [hl] at h
  have e:stP m Cs (Ts.map (·.2.1)) (Ts.map (·.2.2.1)) sp L (fun _=>true) xs gs=selI (fun k=>fi.contains k) 0 L++ownsA (fun k=>fo.contains k) xs gs (akP Cs 0 sp):=by
   unfold stP
   have h1:=ownsA_of (q:=fun k=>fo.contains k) (Cs:=Cs) (xs:=xs) (gs:=gs) sp [] m (by omega)
   simp only [List.nil_append,List.length_nil] at h1
   rw [← h1,selI_congrL L 0 (fun k _ hk=>hfi k (by omega))]
   congr 1
   refine (selO_congr m 0 (fun j _ hj=>⟨?_,fun _=>rfl⟩)).symm
   rw [hfo j (by omega)]
   rfl
  rw [e]
  exact h
end
section
variable {P : Program} {n : Nat} {S : List Nat} {w0 : World} {Z : List PanicEntry → World → Prop} {ops : Array Oper} {L : List Res} {d : Tmp} {ty : TypeId} {pos : String} {af : Array Edge} {g : Option (Nat × Bool)} {o : Oper} {F : (Xs → Xs → Env) → AkP → Prop} {k : Nat} {C ti to xi xo : List Nat} {Ts : List T5} {E : Xs → Xs → Env} {A : AkP} {rest : List Oper} {op : Op} {env : Env} {B : List Res}
theorem QT.of_val {f:Value} (h:QT P n S w0 o env B (.val f)):QPT P n S w0 o env [] B (fun v _=>v=f) (fun _ _=>[]):=by
 refine ⟨fun a w R hm H=>?_⟩
 have hw:=h.run a w hm (H.sub (List.sublist_append_left B R))
 unfold Oper.wp at hw ⊢
 refine upon_imp hw ?_ ?_
 ·rintro v w' ⟨u,h1,h2,h3,h4⟩
  exact ⟨u,undef,h1,h2,h3,(H.join h4).perm (by simp [Sp.res])⟩
 ·rintro e w' ⟨u,h1,_⟩
  have h5:=congrArg Act.defers h1
  rw [put_defs,put_defs] at h5
  have h6:=congrArg List.length h5
  simp at h6
theorem QT.of_any {Fv:Value→Prop} {N:Value→List Res} (h:QT P n S w0 o env B (.any Fv N)):QPT P n S w0 o env [] B (fun v _=>Fv v) (fun v _=>N v):=by
 refine ⟨fun a w R hm H=>?_⟩
 have hw:=h.run a w hm (H.sub (List.sublist_append_left B R))
 unfold Oper.wp at hw ⊢
 refine upon_imp hw ?_ ?_
 ·rintro v w' ⟨u,h1,h2,h3,h4⟩
  exact ⟨u,undef,h1,h2,h3,(H.join h4).perm List.perm_append_comm⟩
 ·rintro e w' ⟨u,h1,_⟩
  have h5:=congrArg Act.defers h1
  rw [put_defs,put_defs] at h5
  have h6:=congrArg List.length h5
  simp at h6
theorem selI_none:∀ (L:List Res) (k:Nat),selI (fun j=>([]:List Nat).contains j) k L=[]
 | [],k=>rfl
 | r::L,k=>selI_none L (k+1)
theorem ownsA_none (xs gs:Xs):∀ (A:AkP),ownsA (fun j=>([]:List Nat).contains j) xs gs A=[]
 | []=>rfl
 | (j,Cj,F,N)::r=>ownsA_none xs gs r
theorem qp_of {s:PS} (h:∀ xs gs:Xs,factsAP C xs gs A→QPG P n S w0 Z ops o (E xs gs) (selI (fun j=>ti.contains j) 0 L++ownsA (fun j=>to.contains j) xs gs A) (selI (fun j=>xi.contains j) 0 L++ownsA (fun j=>xo.contains j) xs gs A) (s.fact xs gs) (s.own xs gs))
 (hn:quietsP P n S w0 Z ops L F (k+1) rest Ts (fun xs gs=>ext o.dst (s.cur (mask C xs) (mask C gs) (xs k)) (E xs gs)) (A++s.ak k C)):quietsP P n S w0 Z ops L F k (o::rest) ((C,ti,to,xi,xo)::Ts) E A:=⟨s,h,hn⟩
theorem qp_v {f:Xs→Xs→Value} (hq:∀ xs gs:Xs,factsAP C xs gs A→QT P n S w0 { dst:=some d,op,type:=ty,pos,after:=af,guard:=none } (E xs gs) (selI (fun j=>xi.contains j) 0 L++ownsA (fun j=>xo.contains j) xs gs A) (.val (f xs gs)))
 (h:quietsP P n S w0 Z ops L F (k+1) rest Ts (fun xs gs=>(d,f (mask C xs) (mask C gs))::E xs gs) A):quietsP P n S w0 Z ops L F k ({ dst:=some d,op,type:=ty,pos,after:=af,guard:=none }::rest) ((C,[],[],xi,xo)::Ts) E A :=
 qp_of (s:=.val f) (fun xs gs hx=>.inl ⟨trivial,by rw [selI_none,ownsA_none];exact (hq xs gs hx).of_val⟩) (by rw [show A++(PS.val f).ak k C=A from List.append_nil A];exact h)
theorem qp_a {Fv:Xs→Xs→Value→Prop} {N:Xs→Xs→Value→List Res} (hq:∀ xs gs:Xs,factsAP C xs gs A→QT P n S w0 { dst:=some d,op,type:=ty,pos,after:=af,guard:=none } (E xs gs) (selI (fun j=>xi.contains j) 0 L++ownsA (fun j=>xo.contains j) xs gs A) (.any (Fv xs gs) (N xs gs)))
 (h:quietsP P n S w0 Z ops L F (k+1) rest Ts (fun xs gs=>(d,xs k)::E xs gs) (A++[(k,C,fun xs gs v _=>Fv xs gs v,fun xs gs v _=>N xs gs v)])):quietsP P n S w0 Z ops L F k ({ dst:=some d,op,type:=ty,pos,after:=af,guard:=none }::rest) ((C,[],[],xi,xo)::Ts) E A :=
 qp_of (s:=.any (fun xs gs v _=>Fv xs gs v) (fun xs gs v _=>N xs gs v)) (fun xs gs hx=>.inl ⟨trivial,by rw [selI_none,ownsA_none];exact (hq xs gs hx).of_any⟩) h
theorem qp_dead (hq:∀ xs gs:Xs,factsAP C xs gs A→False)
 (h:quietsP P n S w0 Z ops L F (k+1) rest Ts (fun xs gs=>ext o.dst (xs k) (E xs gs)) (A++[(k,C,fun _ _ _ _=>False,fun _ _ _ _=>[])])):quietsP P n S w0 Z ops L F k (o::rest) ((C,ti,to,xi,xo)::Ts) E A :=
 qp_of (s:=.any (fun _ _ _ _=>False) (fun _ _ _ _=>[])) (fun xs gs hx=>(hq xs gs hx).elim) h
theorem qp_end (h:F E A):quietsP P n S w0 Z ops L F k [] Ts E A:=h
theorem qp_storeA {t:TypeId} {x y:Operand} {b sz:Nat} {T:TypeId} {c vs:Xs→Xs→List Value} (hx:∀ xs gs:Xs,factsAP C xs gs A→evalE (E xs gs) x=some (vP b 0)) (hy:∀ xs gs:Xs,factsAP C xs gs A→evalE (E xs gs) y=some (.agg (vs xs gs).toArray))
 (hp:∀ xs gs:Xs,factsAP C xs gs A→selI (fun j=>ti.contains j) 0 L=[.blk b T (c xs gs)]) (hi:(P.info? t).map (·.size)=some sz) (hs:∀ xs gs:Xs,factsAP C xs gs A→(vs xs gs).length=sz) (h1:∀ xs gs:Xs,factsAP C xs gs A→∀ u∈vs xs gs,u.oneCell'=true) (hl:∀ xs gs:Xs,factsAP C xs gs A→(c xs gs).length=sz)
 (h:quietsP P n S w0 Z ops L F (k+1) rest Ts E (A++[(k,C,fun _ _ v _=>v=undef,fun xs gs _ _=>[.blk b T (vs xs gs)])])) :
 quietsP P n S w0 Z ops L F k ({ dst:=none,op:=.store t x y,type:=ty,pos,after:=af,guard:=none }::rest) ((C,ti,[],xi,xo)::Ts) E A :=
 qp_of (s:=.any (fun _ _ v _=>v=undef) (fun xs gs _ _=>[.blk b T (vs xs gs)])) (fun xs gs hf=>.inl ⟨trivial,by
  rw [hp xs gs hf,ownsA_none]
  exact ⟨fun a w R hm H=>opw_store (k:=0) H rfl (hm.eval (hx xs gs hf)) (by rw [hm.eval (hy xs gs hf)];rfl) (by rw [hi,hs xs gs hf]) (by rw [hs xs gs hf,hl xs gs hf];omega) (h1 xs gs hf) fun w' H'=>⟨undef,undef,rfl,fun _=>rfl,rfl,by rw [splice_all (by rw [hs xs gs hf,hl xs gs hf])] at H';exact H'⟩⟩⟩) h
end
theorem Reads.rowV {S:List Nat} {w0:World} {L:List Res} {T:TypeId} {size m cap r:Nat} {A:Option Addr} {v:Value} {xs:List Value} (k:Nat) (hv:v=.slice A m cap) (hk:L[k]?=some (.row T size v r xs)):Reads S w0 L A xs:=by
 subst hv
 exact Reads.row k hk
section
variable {P : Program} {n : Nat} {S : List Nat} {w0 : World} {Z : List PanicEntry → World → Prop} {ops : Array Oper} {L : List Res} {d : Tmp} {ty : TypeId} {pos : String} {af : Array Edge} {F : (Xs → Xs → Env) → AkP → Prop} {k : Nat} {C ti to xi xo : List Nat} {Ts : List T5} {E : Xs → Xs → Env} {A : AkP} {rest : List Oper}
theorem qp_append {t tx e:TypeId} {s x:Operand} {z:Value} {size bytes p m:Nat} {v:Xs→Xs→Value} {cs news:Xs→Xs→List Value} (hu:P.underlying t=some (.slice e)) (htx:P.underlying tx=some (.slice e)) (hi:(P.info? e).map (fun i=>(i.zero,i.size,i.bytes))=some (some z,size,bytes)) (hzs:z.cells.size=size) (hb1:bytes≤1099511627776)
 (hs:∀ xs gs:Xs,factsAP C xs gs A→evalE (E xs gs) s=some (v xs gs)) (hp:∀ xs gs:Xs,factsAP C xs gs A→selI (fun j=>ti.contains j) 0 L++ownsA (fun j=>to.contains j) xs gs A=[.row e size (v xs gs) p (cs xs gs)])
 (hx:∀ xs gs:Xs,factsAP C xs gs A→∃ B cx,evalE (E xs gs) x=some (.slice B m cx)∧Reads S w0 (selI (fun j=>xi.contains j) 0 L++ownsA (fun j=>xo.contains j) xs gs A) B (news xs gs))
 (hl:∀ xs gs:Xs,factsAP C xs gs A→(news xs gs).length=m*size) (h1:∀ xs gs:Xs,factsAP C xs gs A→∀ u∈news xs gs,u.oneCell'=true) (hbytes:(p+m)*bytes≤70368744177664) (hmax:p+m≤70368744177664)
 (h:quietsP P n S w0 Z ops L F (k+1) rest Ts (fun xs gs=>(d,xs k)::E xs gs) (A++[(k,C,fun _ _ v _=>isSl (p+m) v,fun xs gs v _=>[.row e size v (p+m) (cs xs gs++news xs gs)])])) :
 quietsP P n S w0 Z ops L F k ({ dst:=some d,op:=.call { callee:=.builtin .append,args:=#[s,x],argTypes:=#[t,tx] },type:=ty,pos,after:=af,guard:=none }::rest) ((C,ti,to,xi,xo)::Ts) E A :=
 qp_of (s:=.any (fun _ _ v _=>isSl (p+m) v) (fun xs gs v _=>[.row e size v (p+m) (cs xs gs++news xs gs)])) (fun xs gs hf=>.inl ⟨trivial,by
  obtain ⟨B,cx,hx1,hx2⟩:=hx xs gs hf
  rw [hp xs gs hf]
  exact ⟨fun a w R hm H=>opw_append (k:=0) H rfl hu htx hi hzs hb1 (hm.eval (hs xs gs hf)) (hm.eval hx1) (hx2 w (H.sub ((List.sublist_append_left _ R).trans (List.sublist_append_right _ _)))) (hl xs gs hf) (h1 xs gs hf) hbytes hmax fun w' v' H'=>⟨v',undef,rfl,fun h=>(by simp at h),by
   have hrow:Res.ok w' (.row e size v' (p+m) (cs xs gs++news xs gs)):=H'.get (k:=0) rfl
   obtain ⟨B',c',h3,h4,h5,_⟩:=Row.slice hrow
   exact ⟨B',c',h3,h4,h5⟩,H'⟩⟩⟩) h
end
theorem resCC {P:Program} {n:Nat} {S:List Nat} {w0:World} {env:Env} {L:List Res} {fn:Func} {s u:Tmp} {t t':TypeId} {dd dd':TypeDesc} {b b' sz sz':Nat} {T T':TypeId} {c c':List Value} (k k':Nat) (h:fn.results=#[.cell s t,.cell u t']) (hu:P.underlying t=some dd) (hd:(match dd with | .struct _ | .array _ _=>true | _=>false)=true) (hs:look s env=some (vP b 0)) (hk:L[k]?=some (.blk b T c)) (hi:(P.info? t).map (·.size)=some sz) (hl:c.length=sz)
 (hu':P.underlying t'=some dd') (hd':(match dd' with | .struct _ | .array _ _=>true | _=>false)=true) (hs':look u env=some (vP b' 0)) (hk':L[k']?=some (.blk b' T' c')) (hi':(P.info? t').map (·.size)=some sz') (hl':c'.length=sz') :
 ResE P n S w0 fn env L (.tuple #[.agg c.toArray,.agg c'.toArray]):=fun a w hm H=>by
 have h1:=hm.get s _ hs
 have h3:=hm.get u _ hs'
 have h2:=run_loadVarA hu hd (by rw [hi,hl]) (H.blk hk).sl0
 have h4:=run_loadVarA hu' hd' (by rw [hi',hl']) (H.blk hk').sl0
 simp [results,h,Array.getD_eq_getD_getElem?,h1,h3,asAddr,h2,h4]
abbrev vW (x:Nat):Value:=.int .u64 (x:Int)
def n64s (l:List Nat):List Value:=l.map vW
theorem n64s_length (l:List Nat):(n64s l).length=l.length:=by simp [n64s]
theorem n64s_one (l:List Nat):∀ v∈n64s l,v.oneCell'=true:=by
 intro v hv;obtain ⟨x,_,rfl⟩:=List.mem_map.1 hv;rfl
end Go.PBYtfpdnpppcoomnaaGreat
namespace Go.Proofs.YtfpdnpppcoomnaaGreat
open Go.RowKit Go.PBYtfpdnpppcoomnaaGreat
theorem sz2:(Tryz.prog.info? 2).map (·.size)=some 1:=by kernel_rfl
theorem sz3:(Tryz.prog.info? 3).map (·.size)=some 1:=by kernel_rfl
theorem sz4:(Tryz.prog.info? 4).map (·.size)=some 1:=by kernel_rfl
theorem sz5:(Tryz.prog.info? 5).map (·.size)=some 1:=by kernel_rfl
theorem in5:(Tryz.prog.info? 5).map (fun i=>(i.zero,i.size,i.bytes))=some (some (Value.int .u8 0),1,1):=by kernel_rfl
theorem zr5:(Tryz.prog.info? 5).map (·.zero)=some (some (Value.int .u8 0)):=by kernel_rfl
theorem sz9:(Tryz.prog.info? 9).map (·.size)=some 1:=by kernel_rfl
theorem in9:(Tryz.prog.info? 9).map (fun i=>(i.zero,i.size,i.bytes))=some (some (Value.string ⟨#[]⟩),1,16):=by kernel_rfl
theorem sz22:(Tryz.prog.info? 22).map (·.size)=some 1:=by kernel_rfl
theorem in22:(Tryz.prog.info? 22).map (fun i=>(i.zero,i.size,i.bytes))=some (some (Value.slice none 0 0),1,24):=by kernel_rfl
theorem zr22:(Tryz.prog.info? 22).map (·.zero)=some (some (Value.slice none 0 0)):=by kernel_rfl
theorem sz25:(Tryz.prog.info? 25).map (·.size)=some 1:=by kernel_rfl
theorem sz26:(Tryz.prog.info? 26).map (·.size)=some 2:=by kernel_rfl
theorem zr26:(Tryz.prog.info? 26).map (·.zero)=some (some (.agg ([Value.pointer none,Value.pointer none]).toArray)):=by kernel_rfl
theorem sz28:(Tryz.prog.info? 28).map (·.size)=some 1:=by kernel_rfl
theorem zr28:(Tryz.prog.info? 28).map (·.zero)=some (some (Value.pointer none)):=by kernel_rfl
theorem sz29:(Tryz.prog.info? 29).map (·.size)=some 1:=by kernel_rfl
theorem zr29:(Tryz.prog.info? 29).map (·.zero)=some (some (Value.int .i64 0)):=by kernel_rfl
theorem sz33:(Tryz.prog.info? 33).map (·.size)=some 32:=by kernel_rfl
theorem zr33:(Tryz.prog.info? 33).map (·.zero)=some (some (.agg (bys (List.replicate 32 0)).toArray)):=by kernel_rfl
theorem in33:(Tryz.prog.info? 33).map (fun i=>(i.zero,i.size,i.bytes))=some (some (.agg (bys (List.replicate 32 0)).toArray),32,32):=by kernel_rfl
theorem sz35:(Tryz.prog.info? 35).map (·.size)=some 34:=by kernel_rfl
theorem zr35:(Tryz.prog.info? 35).map (·.zero)=some (some (.agg (bys (List.replicate 32 0)++[Value.int .i64 0]++[Value.int .i64 0]).toArray)):=by kernel_rfl
theorem fo35_0:fieldOff Tryz.prog 35 0=some (0,32):=by kernel_rfl
theorem fo35_1:fieldOff Tryz.prog 35 1=some (32,1):=by kernel_rfl
theorem fo35_2:fieldOff Tryz.prog 35 2=some (33,1):=by kernel_rfl
theorem sz37:(Tryz.prog.info? 37).map (·.size)=some 69:=by kernel_rfl
theorem zr37:(Tryz.prog.info? 37).map (·.zero)=some (some (.agg ([Value.int .i64 0]++[Value.int .i64 0]++bys (List.replicate 32 0)++bys (List.replicate 32 0)++[Value.int .i64 0]++[Value.int .i64 0]++[Value.slice none 0 0]).toArray)):=by kernel_rfl
theorem fo37_0:fieldOff Tryz.prog 37 0=some (0,1):=by kernel_rfl
theorem fo37_1:fieldOff Tryz.prog 37 1=some (1,1):=by kernel_rfl
theorem fo37_2:fieldOff Tryz.prog 37 2=some (2,32):=by kernel_rfl
theorem fo37_3:fieldOff Tryz.prog 37 3=some (34,34):=by kernel_rfl
theorem fo37_4:fieldOff Tryz.prog 37 4=some (68,1):=by kernel_rfl
theorem sz46:(Tryz.prog.info? 46).map (·.size)=some 68:=by kernel_rfl
theorem zr46:(Tryz.prog.info? 46).map (·.zero)=some (some (.agg ([Value.int .i64 0]++[Value.int .i64 0]++[Value.int .i64 0]++[Value.int .i64 0]++bys (List.replicate 32 0)++bys (List.replicate 32 0)).toArray)):=by kernel_rfl
theorem fo46_0:fieldOff Tryz.prog 46 0=some (0,1):=by kernel_rfl
theorem fo46_1:fieldOff Tryz.prog 46 1=some (1,1):=by kernel_rfl
theorem fo46_2:fieldOff Tryz.prog 46 2=some (2,1):=by kernel_rfl
theorem fo46_3:fieldOff Tryz.prog 46 3=some (3,1):=by kernel_rfl
theorem fo46_4:fieldOff Tryz.prog 46 4=some (4,32):=by kernel_rfl
theorem fo46_5:fieldOff Tryz.prog 46 5=some (36,32):=by kernel_rfl
theorem sz50:(Tryz.prog.info? 50).map (·.size)=some 103:=by kernel_rfl
theorem zr50:(Tryz.prog.info? 50).map (·.zero)=some (some (.agg ([Value.int .i64 0]++[Value.int .i64 0]++[Value.slice none 0 0]++bys (List.replicate 32 0)++[Value.int .i64 0]++[Value.int .i64 0]++[Value.int .i64 0]++[Value.int .i64 0]++bys (List.replicate 32 0)++bys (List.replicate 32 0)).toArray)):=by kernel_rfl
theorem fo50_0:fieldOff Tryz.prog 50 0=some (0,1):=by kernel_rfl
theorem fo50_1:fieldOff Tryz.prog 50 1=some (1,1):=by kernel_rfl
theorem fo50_2:fieldOff Tryz.prog 50 2=some (2,1):=by kernel_rfl
theorem fo50_3:fieldOff Tryz.prog 50 3=some (3,32):=by kernel_rfl
theorem fo50_4:fieldOff Tryz.prog 50 4=some (35,68):=by kernel_rfl
theorem sz60:(Tryz.prog.info? 60).map (·.size)=some 64:=by kernel_rfl
theorem zr60:(Tryz.prog.info? 60).map (·.zero)=some (some (.agg (bys (List.replicate 32 0)++bys (List.replicate 32 0)).toArray)):=by kernel_rfl
theorem fo60_0:fieldOff Tryz.prog 60 0=some (0,32):=by kernel_rfl
theorem fo60_1:fieldOff Tryz.prog 60 1=some (32,32):=by kernel_rfl
theorem fo82_0:fieldOff Tryz.prog 82 0=some (0,1):=by kernel_rfl
theorem fo82_1:fieldOff Tryz.prog 82 1=some (1,1):=by kernel_rfl
theorem sz91:(Tryz.prog.info? 91).map (·.size)=some 1:=by kernel_rfl
theorem zr91:(Tryz.prog.info? 91).map (·.zero)=some (some (Value.pointer none)):=by kernel_rfl
theorem fo93_0:fieldOff Tryz.prog 93 0=some (0,1):=by kernel_rfl
theorem sz114:(Tryz.prog.info? 114).map (·.size)=some 64:=by kernel_rfl
theorem zr114:(Tryz.prog.info? 114).map (·.zero)=some (some (.agg (bys (List.replicate 32 0)++bys (List.replicate 32 0)).toArray)):=by kernel_rfl
theorem ft114_1:fieldTy Tryz.prog 114 1=some (33,32):=by kernel_rfl
theorem sz118:(Tryz.prog.info? 118).map (·.size)=some 16:=by kernel_rfl
theorem sz120:(Tryz.prog.info? 120).map (·.size)=some 16:=by kernel_rfl
theorem zr120:(Tryz.prog.info? 120).map (·.zero)=some (some (.agg (i64s (List.replicate 16 0)).toArray)):=by kernel_rfl
theorem fo120_0:fieldOff Tryz.prog 120 0=some (0,16):=by kernel_rfl
theorem sz127:(Tryz.prog.info? 127).map (·.size)=some 1:=by kernel_rfl
theorem fo135_1:fieldOff Tryz.prog 135 1=some (0,1):=by kernel_rfl
theorem fo135_2:fieldOff Tryz.prog 135 2=some (1,2):=by kernel_rfl
theorem fo137_0:fieldOff Tryz.prog 137 0=some (0,1):=by kernel_rfl
theorem fo137_1:fieldOff Tryz.prog 137 1=some (1,3):=by kernel_rfl
theorem fo137_2:fieldOff Tryz.prog 137 2=some (4,32):=by kernel_rfl
theorem fo137_3:fieldOff Tryz.prog 137 3=some (36,1):=by kernel_rfl
theorem sz138:(Tryz.prog.info? 138).map (·.size)=some 1:=by kernel_rfl
theorem sz139:(Tryz.prog.info? 139).map (·.size)=some 1:=by kernel_rfl
theorem sz141:(Tryz.prog.info? 141).map (·.size)=some 1:=by kernel_rfl
theorem sz143:(Tryz.prog.info? 143).map (·.size)=some 102:=by kernel_rfl
theorem zr143:(Tryz.prog.info? 143).map (·.zero)=some (some (.agg (bys (List.replicate 32 0)++bys (List.replicate 32 0)++bys (List.replicate 32 0)++[Value.pointer none]++[Value.bool false]++[Value.pointer none]++[Value.pointer none]++[Value.int .i64 0]++[Value.pointer none]).toArray)):=by kernel_rfl
theorem fo143_0:fieldOff Tryz.prog 143 0=some (0,32):=by kernel_rfl
theorem fo143_1:fieldOff Tryz.prog 143 1=some (32,64):=by kernel_rfl
theorem fo143_2:fieldOff Tryz.prog 143 2=some (96,1):=by kernel_rfl
theorem fo143_3:fieldOff Tryz.prog 143 3=some (97,1):=by kernel_rfl
theorem fo143_4:fieldOff Tryz.prog 143 4=some (98,1):=by kernel_rfl
theorem fo143_5:fieldOff Tryz.prog 143 5=some (99,1):=by kernel_rfl
theorem fo143_6:fieldOff Tryz.prog 143 6=some (100,1):=by kernel_rfl
theorem fo143_7:fieldOff Tryz.prog 143 7=some (101,1):=by kernel_rfl
theorem fo145_0:fieldOff Tryz.prog 145 0=some (0,102):=by kernel_rfl
theorem fo145_1:fieldOff Tryz.prog 145 1=some (102,1):=by kernel_rfl
theorem fo153_0:fieldOff Tryz.prog 153 0=some (0,32):=by kernel_rfl
theorem fo153_1:fieldOff Tryz.prog 153 1=some (32,1):=by kernel_rfl
theorem zr164:(Tryz.prog.info? 164).map (·.zero)=some (some (.agg (i64s (List.replicate 32 0)).toArray)):=by kernel_rfl
theorem sz168:(Tryz.prog.info? 168).map (·.size)=some 1:=by kernel_rfl
theorem fo170_0:fieldOff Tryz.prog 170 0=some (0,1):=by kernel_rfl
theorem fo170_1:fieldOff Tryz.prog 170 1=some (1,1):=by kernel_rfl
theorem sz175:(Tryz.prog.info? 175).map (·.size)=some 8:=by kernel_rfl
theorem zr175:(Tryz.prog.info? 175).map (·.zero)=some (some (.agg (u32s (List.replicate 8 0)).toArray)):=by kernel_rfl
theorem sz179:(Tryz.prog.info? 179).map (·.size)=some 64:=by kernel_rfl
theorem zr179:(Tryz.prog.info? 179).map (·.zero)=some (some (.agg (bys (List.replicate 64 0)).toArray)):=by kernel_rfl
theorem fo182_0:fieldOff Tryz.prog 182 0=some (0,32):=by kernel_rfl
theorem fo182_1:fieldOff Tryz.prog 182 1=some (32,32):=by kernel_rfl
theorem sz184:(Tryz.prog.info? 184).map (·.size)=some 96:=by kernel_rfl
theorem zr184:(Tryz.prog.info? 184).map (·.zero)=some (some (.agg (bys (List.replicate 32 0)++bys (List.replicate 32 0)++bys (List.replicate 32 0)).toArray)):=by kernel_rfl
theorem fo184_0:fieldOff Tryz.prog 184 0=some (0,64):=by kernel_rfl
theorem fo184_1:fieldOff Tryz.prog 184 1=some (64,32):=by kernel_rfl
theorem sz189:(Tryz.prog.info? 189).map (·.size)=some 33:=by kernel_rfl
theorem zr189:(Tryz.prog.info? 189).map (·.zero)=some (some (.agg (bys (List.replicate 32 0)++[Value.int .i64 0]).toArray)):=by kernel_rfl
theorem in189:(Tryz.prog.info? 189).map (fun i=>(i.zero,i.size,i.bytes))=some (some (.agg (bys (List.replicate 32 0)++[Value.int .i64 0]).toArray),33,40):=by kernel_rfl
theorem sz196:(Tryz.prog.info? 196).map (·.size)=some 33:=by kernel_rfl
theorem zr196:(Tryz.prog.info? 196).map (·.zero)=some (some (.agg (bys (List.replicate 32 0)++[Value.int .i64 0]).toArray)):=by kernel_rfl
theorem fo196_0:fieldOff Tryz.prog 196 0=some (0,32):=by kernel_rfl
theorem fo196_1:fieldOff Tryz.prog 196 1=some (32,1):=by kernel_rfl
theorem zr201:(Tryz.prog.info? 201).map (·.zero)=some (some (.agg (u32s (List.replicate 16 0)).toArray)):=by kernel_rfl
theorem sz205:(Tryz.prog.info? 205).map (·.size)=some 16:=by kernel_rfl
theorem zr205:(Tryz.prog.info? 205).map (·.zero)=some (some (.agg (bys (List.replicate 16 0)).toArray)):=by kernel_rfl
theorem sz211:(Tryz.prog.info? 211).map (·.size)=some 12:=by kernel_rfl
theorem sz227:(Tryz.prog.info? 227).map (·.size)=some 16:=by kernel_rfl
theorem zr227:(Tryz.prog.info? 227).map (·.zero)=some (some (.agg (u32s (List.replicate 16 0)).toArray)):=by kernel_rfl
theorem sz234:(Tryz.prog.info? 234).map (·.size)=some 2:=by kernel_rfl
theorem zr234:(Tryz.prog.info? 234).map (·.zero)=some (some (.agg (i64s (List.replicate 2 0)).toArray)):=by kernel_rfl
end Go.Proofs.YtfpdnpppcoomnaaGreat
namespace Go.PBYtfpdnpppcoomnaaGreat
open Go Go.RowKit
theorem splice_fill (xs:List Value) (z v:Value) (m k:Nat) (hk:xs.length=k) (hm:0<m):splice (xs++List.replicate m z) k [v]=(xs++[v])++List.replicate (m-1) z:=by
 subst hk
 obtain ⟨m,rfl⟩:∃ j,m=j+1:=⟨m-1,by omega⟩
 unfold splice
 simp [List.replicate_succ,List.drop_append]
theorem splice_back (xs:List Value) (z v:Value) (m k:Nat) (hm:k+1=m):splice (List.replicate m z++xs) k [v]=List.replicate k z++v::xs:=by
 subst hm
 unfold splice
 have e:List.replicate (k+1) z=List.replicate k z++[z]:=by rw [List.replicate_succ']
 rw [e,List.append_assoc]
 simp [List.drop_append]
def lowAt (n:Nat) (i:Nat):UInt8:=UInt8.ofNat (n / 2^(8*i))
def lowB (n:Nat) (k:Nat):List UInt8:=(List.range k).map (lowAt n)
theorem lowB_length (n k:Nat):(lowB n k).length=k:=by simp [lowB]
theorem lowB_succ (n k:Nat):lowB n (k+1)=lowB n k++[lowAt n k]:=by simp [lowB,List.range_succ]
theorem lowAt_val (n i:Nat):(n:Int) / 2^(8*i) % 256=((lowAt n i).toNat:Int):=by
 unfold lowAt
 rw [UInt8.toNat_ofNat']
 simp
def highB (n k:Nat):List UInt8:=(lowB n k).reverse
theorem highB_length (n k:Nat):(highB n k).length=k:=by simp [highB,lowB_length]
def ofHigh (l:List UInt8):Nat:=l.foldl (fun n c=>n*256+c.toNat) 0
theorem ofHigh_snoc (l:List UInt8) (c:UInt8):ofHigh (l++[c])=ofHigh l*256+c.toNat:=by simp [ofHigh]
theorem ofHigh_from (l:List UInt8):∀ n,l.foldl (fun n c=>n*256+c.toNat) n<(n+1)*256^l.length:=by
 induction l with
 | nil=>intro n;simp
 | cons c l ih =>
  intro n
  have h:=ih (n*256+c.toNat)
  have hc:=c.toNat_lt
  have h2:(n*256+c.toNat+1)*256^l.length≤((n+1)*256)*256^l.length:=Nat.mul_le_mul_right _ (by omega)
  rw [List.foldl_cons,List.length_cons,Nat.pow_succ,Nat.mul_comm (256^l.length) 256,← Nat.mul_assoc]
  omega
theorem ofHigh_lt (l:List UInt8):ofHigh l<256^l.length:=by
 have:=ofHigh_from l 0
 simpa [ofHigh] using this
theorem ofHigh_lt7 (l:List UInt8) (h:l.length≤7):ofHigh l<72057594037927936:=by
 have h1:=ofHigh_lt l
 have h2:256^l.length≤256^7:=Nat.pow_le_pow_right (by omega) h
 have h3:256^7=72057594037927936:=by decide
 omega
theorem u64_byte (c:UInt8):IntKind.u64.wrap (c.toNat:Int)=(c.toNat:Int):=by rw [IntKind.wrap_u64];have:=c.toNat_lt;omega
theorem or_byte (x:Nat) (c:UInt8) (hx:x<72057594037927936):bits .or .u64 ((x:Int)*256) (c.toNat:Int)=((x*256+c.toNat:Nat):Int):=by
 have hc:=c.toNat_lt
 have h1:(BitVec.ofInt 64 ((x:Int)*256)).toNat=x*256:=by
  rw [BitVec.toNat_ofInt];omega
 have h2:(BitVec.ofInt 64 (c.toNat:Int)).toNat=c.toNat:=by
  rw [BitVec.toNat_ofInt];omega
 have h3:x*256 ||| c.toNat=x*256+c.toNat:=by
  have:=Nat.shiftLeft_add_eq_or_of_lt (show c.toNat<2^8 by omega) x
  simp only [Nat.shiftLeft_eq,show (2:Nat)^8=256 from rfl] at this
  omega
 show IntKind.u64.wrap ((BitVec.ofInt 64 ((x:Int)*256) ||| BitVec.ofInt 64 (c.toNat:Int)).toNat:Int)=_
 rw [BitVec.toNat_or,h1,h2,h3]
 have:IntKind.u64.wrap ((x*256+c.toNat:Nat):Int)=((x*256+c.toNat:Nat):Int):=by
  rw [IntKind.wrap_u64];omega
 exact this
theorem ofInt_u8 (x:UInt8):BitVec.ofInt 8 (x.toNat:Int)=x.toBitVec:=by
 apply BitVec.eq_of_toNat_eq
 rw [BitVec.toNat_ofInt]
 have:=x.toNat_lt
 show _=x.toNat
 omega
theorem wrap_u8 (v:BitVec 8):IntKind.u8.wrap (v.toNat:Int)=(v.toNat:Int):=by
 rw [IntKind.wrap_u8]
 have:=v.isLt
 omega
theorem bits_xor_u8 (x y:UInt8):bits .xor .u8 (x.toNat:Int) (y.toNat:Int)=((x ^^^ y).toNat:Int):=by
 show IntKind.u8.wrap ((BitVec.ofInt 8 (x.toNat:Int) ^^^ BitVec.ofInt 8 (y.toNat:Int)).toNat:Int)=_
 rw [wrap_u8,ofInt_u8,ofInt_u8]
 rfl
theorem bits_or_u8 (x y:UInt8):bits .or .u8 (x.toNat:Int) (y.toNat:Int)=((x ||| y).toNat:Int):=by
 show IntKind.u8.wrap ((BitVec.ofInt 8 (x.toNat:Int) ||| BitVec.ofInt 8 (y.toNat:Int)).toNat:Int)=_
 rw [wrap_u8,ofInt_u8,ofInt_u8]
 rfl
theorem u8_or_zero (a b:UInt8):a ||| b=0↔a=0∧b=0:=by
 constructor
 ·intro h
  have h':a.toNat ||| b.toNat=0:=by rw [← UInt8.toNat_or,h];rfl
  have:=Nat.or_eq_zero_iff.1 h'
  exact ⟨UInt8.toNat_inj.1 this.1,UInt8.toNat_inj.1 this.2⟩
 ·rintro ⟨rfl,rfl⟩;rfl
theorem u8_xor_zero (a b:UInt8):a ^^^ b=0↔a=b:=UInt8.xor_eq_zero_iff
def BsAt (w:World) (v:Value) (l:List UInt8):Prop:=∃ A c,v=.slice A l.length c∧l.length≤c∧SlAt w A (bys l)
theorem BsAt.keep {w w':World} {v:Value} {l:List UInt8} (h:BsAt w v l) (hK:Kept [] w w'):BsAt w' v l:=by
 obtain ⟨A,c,rfl,hc,h⟩:=h
 exact ⟨A,c,rfl,hc,h.keep hK⟩
theorem Row.bs {w:World} {T:TypeId} {v:Value} {n:Nat} {l:List UInt8} (h:Row w T 1 v n (bys l)):BsAt w v l:=by
 have hn:n=l.length:=by have:=h.1;rw [bys_length] at this;omega
 subst hn
 obtain ⟨A,cap,rfl,h1,h2,h3⟩:=h.slice
 exact ⟨A,cap,rfl,h1,h3⟩
def RowsAt (w:World) (v:Value) (ls:List (List UInt8)):Prop:=∃ A c vs,v=.slice A ls.length c∧ls.length≤c∧SlAt w A vs∧vs.length=ls.length∧∀ (i:Nat) (u:Value) (l:List UInt8),vs[i]?=some u→ls[i]?=some l→BsAt w u l
theorem RowsAt.keep {w w':World} {v:Value} {ls:List (List UInt8)} (h:RowsAt w v ls) (hK:Kept [] w w'):RowsAt w' v ls:=by
 obtain ⟨A,c,vs,rfl,hc,h,hl,hb⟩:=h
 exact ⟨A,c,vs,rfl,hc,h.keep hK,hl,fun i u l hu hl'=>(hb i u l hu hl').keep hK⟩
def joinB:List (List UInt8)→List UInt8
 | []=>[]
 | b::r=>highB b.length 4++b++joinB r
theorem joinB_snoc (l:List (List UInt8)) (b:List UInt8):joinB (l++[b])=joinB l++highB b.length 4++b:=by
 induction l with
 | nil=>simp [joinB]
 | cons x l ih=>simp [joinB,ih]
def partO:Nat→List UInt8→Option (List (List UInt8))
 | 0,_=>some []
 | k+1,b =>
  if b=[] then some []
  else if b.length<4 then none
  else if b.length-4<ofHigh (b.take 4) then none
  else (partO k ((b.drop 4).drop (ofHigh (b.take 4)))).map (((b.drop 4).take (ofHigh (b.take 4)))::·)
theorem partO_fuel:∀ (k:Nat) (b:List UInt8) (j:Nat),b.length<k→b.length<j→partO k b=partO j b
 | 0,b,j,h,_=>by omega
 | k+1,b,0,_,h=>by omega
 | k+1,b,j+1,h1,h2=>by
  simp only [partO]
  by_cases h0:b=[]
  ·rw [if_pos h0,if_pos h0]
  ·rw [if_neg h0,if_neg h0]
   have:0<b.length:=List.length_pos_iff.2 h0
   split
   ·rfl
   ·split
    ·rfl
    ·rw [partO_fuel k _ j (by simp;omega) (by simp;omega)]
def partOf (b:List UInt8):Option (List (List UInt8)):=partO (b.length+1) b
theorem partOf_nil:partOf []=some []:=rfl
theorem partOf_short {b:List UInt8} (h0:b≠[]) (h:b.length<4):partOf b=none:=by
 simp only [partOf,partO]
 rw [if_neg h0,if_pos h]
theorem partOf_far {b:List UInt8} (h:4≤b.length) (h2:b.length-4<ofHigh (b.take 4)):partOf b=none:=by
 have h0:b≠[]:=by rintro rfl;simp at h
 simp only [partOf,partO]
 rw [if_neg h0,if_neg (by omega),if_pos h2]
theorem partOf_step {b:List UInt8} (h:4≤b.length) (h2:ofHigh (b.take 4)≤b.length-4):partOf b=(partOf ((b.drop 4).drop (ofHigh (b.take 4)))).map (((b.drop 4).take (ofHigh (b.take 4)))::·):=by
 have h0:b≠[]:=by rintro rfl;simp at h
 have e:partOf b=(partO b.length ((b.drop 4).drop (ofHigh (b.take 4)))).map (((b.drop 4).take (ofHigh (b.take 4)))::·):=by
  simp only [partOf,partO]
  rw [if_neg h0,if_neg (by omega),if_neg (by omega)]
 rw [e]
 congr 1
 exact partO_fuel _ _ _ (by simp;omega) (by simp)
def xorB (a b:List UInt8):List UInt8:=List.zipWith (· ^^^ ·) a b
def rotl (x:UInt32) (m:Nat):UInt32:=UInt32.ofNat (x.toNat*2^(min m 32)) ||| UInt32.ofNat (x.toNat / 2^(min (32-m) 32))
def word32 (l:List UInt8):UInt32:=UInt32.ofNat (ofHigh (l.take 4).reverse)
def mixL (l:List UInt32) (a b c d:Nat) (x y:UInt32):List UInt32 :=
 let l1:=l.set a (l.getD a 0+(l.getD b 0+x))
 let l2:=l1.set d (rotl (l1.getD d 0 ^^^ l1.getD a 0) 16)
 let l3:=l2.set c (l2.getD c 0+l2.getD d 0)
 let l4:=l3.set b (rotl (l3.getD b 0 ^^^ l3.getD c 0) 20)
 let l5:=l4.set a (l4.getD a 0+(l4.getD b 0+y))
 let l6:=l5.set d (rotl (l5.getD d 0 ^^^ l5.getD a 0) 24)
 let l7:=l6.set c (l6.getD c 0+l6.getD d 0)
 l7.set b (rotl (l7.getD b 0 ^^^ l7.getD c 0) 25)
theorem mixL_length (l:List UInt32) (a b c d:Nat) (x y:UInt32):(mixL l a b c d x y).length=l.length:=by simp [mixL]
def sRows:List (List UInt8):=[
 [0,1,2,3,4,5,6,7,8,9,10,11,12,13,14,15],
 [14,10,4,8,9,15,13,6,1,12,0,2,11,7,5,3],
 [11,8,12,0,5,2,15,13,10,14,3,6,7,1,9,4],
 [7,9,3,1,13,12,11,14,2,6,5,10,4,0,15,8],
 [9,0,5,7,2,4,10,15,14,1,11,12,6,8,3,13],
 [2,12,6,10,0,11,8,3,4,13,7,5,15,14,1,9],
 [12,5,1,15,14,13,4,10,0,7,6,3,9,2,8,11],
 [13,11,7,14,12,1,3,9,5,0,15,4,8,6,2,10],
 [6,15,14,9,11,3,0,8,12,2,13,7,1,4,10,5],
 [10,2,8,4,7,6,1,5,15,11,9,14,3,12,13,0]]
def sRow (r:Nat):List UInt8:=sRows.getD r []
def sg (r i:Nat):Nat:=((sRow r).getD i 0).toNat
theorem sRow_length {r:Nat} (h:r<10):(sRow r).length=16:=by
 have:∀ r:Fin 10,(sRow r.val).length=16:=by decide
 exact this ⟨r,h⟩
theorem sg_lt {r i:Nat} (h:r<10) (hi:i<16):sg r i<16:=by
 have:∀ r:Fin 10,∀ i:Fin 16,sg r.val i.val<16:=by decide
 exact this ⟨r,h⟩ ⟨i,hi⟩
def colsM (v m:List UInt32) (r:Nat):Nat→List UInt32
 | 0=>v
 | k+1=>mixL (colsM v m r k) k (4+k) (8+k) (12+k) (m.getD (sg r (2*k)) 0) (m.getD (sg r (2*k+1)) 0)
def diagsM (v m:List UInt32) (r:Nat):Nat→List UInt32
 | 0=>v
 | k+1=>mixL (diagsM v m r k) k (4+(k+1) % 4) (8+(k+2) % 4) (12+(k+3) % 4) (m.getD (sg r (8+2*k)) 0) (m.getD (sg r (9+2*k)) 0)
theorem colsM_length (v m:List UInt32) (r:Nat):∀ k,(colsM v m r k).length=v.length
 | 0=>rfl
 | k+1=>by rw [colsM,mixL_length,colsM_length]
theorem diagsM_length (v m:List UInt32) (r:Nat):∀ k,(diagsM v m r k).length=v.length
 | 0=>rfl
 | k+1=>by rw [diagsM,mixL_length,diagsM_length]
def rndsM (v m:List UInt32):Nat→List UInt32
 | 0=>v
 | r+1=>diagsM (colsM (rndsM v m r) m r 4) m r 4
theorem rndsM_length (v m:List UInt32):∀ r,(rndsM v m r).length=v.length
 | 0=>rfl
 | r+1=>by rw [rndsM,diagsM_length,colsM_length,rndsM_length]
def iv:List UInt32:=[0x6a09e667,0xbb67ae85,0x3c6ef372,0xa54ff53a,0x510e527f,0x9b05688c,0x1f83d9ab,0x5be0cd19]
def wordsB (b:List UInt8):Nat→List UInt32
 | 0=>List.replicate 16 0
 | i+1=>(wordsB b i).set i (word32 (b.drop (4*i)))
theorem wordsB_length (b:List UInt8):∀ i,(wordsB b i).length=16
 | 0=>rfl
 | i+1=>by rw [wordsB,List.length_set,wordsB_length]
def v12 (h:List UInt32) (t:UInt64):List UInt32 :=
 let v:=h++iv
 let v1:=v.set 12 (v.getD 12 0 ^^^ UInt32.ofNat t.toNat)
 v1.set 13 (v1.getD 13 0 ^^^ UInt32.ofNat (t.toNat / 2^32))
def vBeg (h:List UInt32) (t:UInt64) (last:Bool):List UInt32:=if last then (v12 h t).set 14 (4294967295 ^^^ (v12 h t).getD 14 0) else v12 h t
theorem v12_length (h:List UInt32) (t:UInt64):(v12 h t).length=h.length+8:=by simp [v12,iv]
theorem vBeg_length (h:List UInt32) (t:UInt64) (last:Bool):(vBeg h t last).length=h.length+8:=by
 unfold vBeg
 split
 ·rw [List.length_set,v12_length]
 ·rw [v12_length]
def xorV (h v:List UInt32):Nat→List UInt32
 | 0=>h
 | i+1=>(xorV h v i).set i ((xorV h v i).getD i 0 ^^^ (v.getD i 0 ^^^ v.getD (i+8) 0))
theorem xorV_length (h v:List UInt32):∀ i,(xorV h v i).length=h.length
 | 0=>rfl
 | i+1=>by rw [xorV,List.length_set,xorV_length]
def into (h:List UInt32) (b:List UInt8) (t:UInt64) (last:Bool):List UInt32:=xorV h (rndsM (vBeg h t last) (wordsB b 16) 10) 8
theorem into_length (h:List UInt32) (b:List UInt8) (t:UInt64) (last:Bool):(into h b t last).length=h.length:=xorV_length ..
theorem cp1 (h:List UInt32) (hh:h.length=8):splice (u32s (List.replicate 16 0)) 0 ((u32s h).take (min 8 8))=u32s (h++List.replicate 8 0):=by
 rw [List.take_of_length_le (by rw [u32s_length,hh];decide)]
 simp only [splice,List.take_zero,List.nil_append,Nat.zero_add,u32s_length,hh,u32s_append]
 congr 1
theorem cp2 (h:List UInt32) (hh:h.length=8):splice (u32s (h++List.replicate 8 0)) 8 ((u32s iv).take (min 8 8))=u32s (h++iv):=by
 have h8:(u32s h).length=8:=by rw [u32s_length,hh]
 rw [u32s_append,u32s_append,List.take_of_length_le (by rw [u32s_length];decide)]
 simp only [splice]
 rw [List.take_left' h8,List.drop_of_length_le (by rw [List.length_append,h8,u32s_length,u32s_length];decide),List.append_nil]
theorem rowPart {r:Nat} (h:r<10):((bys sRows.flatten).drop (0+r*16)).take 16=bys (sRow r):=by
 have key:∀ r:Fin 10,(sRows.flatten.drop (0+r.val*16)).take 16=sRow r.val:=by decide
 rw [bys_drop,bys_take,key ⟨r,h⟩]
theorem blkPart {c:List Value} {blk:List UInt8} {o:Nat} (hc:(c.drop o).take 64=bys blk) (hl:blk.length=64) {i:Nat} (hi:i<16):(c.drop (o+4*i)).take 4=bys ((blk.drop (4*i)).take 4):=by
 rw [← bys_take,← bys_drop,← hc,List.drop_take,List.take_take,List.drop_drop]
 congr 1
 omega
def hKey (n:Nat):List UInt32:=iv.set 0 (iv.getD 0 0 ^^^ (UInt32.ofNat 16842784 ^^^ UInt32.ofNat ((UInt32.ofNat n).toNat*2^(min 8 32))))
theorem hKey_length (n:Nat):(hKey n).length=8:=by simp [hKey,iv]
def padB (l:List UInt8):List UInt8:=l++List.replicate (64-l.length) 0
theorem padB_length {l:List UInt8} (h:l.length≤64):(padB l).length=64:=by simp [padB];omega
def allK (key b:List UInt8):List UInt8:=(if key=[] then [] else padB key)++b
theorem allK_eq {key:List UInt8} (b:List UInt8) (h:0<key.length):allK key b=padB key++b:=by
 unfold allK
 rw [if_neg (by rintro rfl;simp at h)]
theorem allK_length {key:List UInt8} (b:List UInt8) (h:0<key.length) (h2:key.length≤32):(allK key b).length=64+b.length:=by
 rw [allK_eq b h,List.length_append,padB_length (by omega)]
def hs (h0:List UInt32) (all:List UInt8):Nat→List UInt32
 | 0=>h0
 | j+1=>into (hs h0 all j) ((all.drop (64*j)).take 64) (UInt64.ofNat (64*(j+1))) false
theorem hs_length (h0:List UInt32) (all:List UInt8):∀ j,(hs h0 all j).length=h0.length
 | 0=>rfl
 | j+1=>by rw [hs,into_length,hs_length]
def hOut (h:List UInt32):Nat→List UInt8
 | 0=>List.replicate 32 0
 | i+1=>(hOut h i).set i (UInt8.ofNat (UInt32.ofNat ((h.getD (i / 4) 0).toNat / 2^(min (i % 4*8) 32))).toNat)
theorem hOut_length (h:List UInt32):∀ i,(hOut h i).length=32
 | 0=>rfl
 | i+1=>by rw [hOut,List.length_set,hOut_length]
def hEnd (h0:List UInt32) (all:List UInt8):List UInt32 :=
 into (hs h0 all ((all.length-1) / 64)) (padB (all.drop (64*((all.length-1) / 64)))) (UInt64.ofNat all.length) true
theorem hEnd_length (h0:List UInt32) (all:List UInt8):(hEnd h0 all).length=h0.length:=by rw [hEnd,into_length,hs_length]
def macB (key b:List UInt8):List UInt8:=hOut (hEnd (hKey key.length) (allK key b)) 32
theorem macB_length (key b:List UInt8):(macB key b).length=32:=hOut_length ..
theorem cp3 (l:List UInt8) (h:l.length≤64):splice (bys (List.replicate 64 0)) 0 ((bys l).take (min l.length 64))=bys (padB l):=by
 rw [List.take_of_length_le (by rw [bys_length];omega)]
 simp only [splice,List.take_zero,List.nil_append,Nat.zero_add,bys_length,padB,bys_append,bys_drop]
 congr 1
 rw [List.drop_replicate]
theorem restPart {all:List UInt8} {more:List Value} {o:Nat} (h:o≤all.length):((bys all++more).drop o).take (all.length-o)=bys (all.drop o):=by
 rw [List.drop_append,bys_length,bys_drop,List.take_append_of_le_length (by rw [bys_length,List.length_drop];omega),bys_take,List.take_of_length_le (by rw [List.length_drop];omega)]
theorem chunkPart {all:List UInt8} {more:List Value} {o:Nat} (h:o+64≤all.length):((bys all++more).drop o).take 64=bys ((all.drop o).take 64):=by
 rw [List.drop_append,bys_length,bys_drop,List.take_append_of_le_length (by rw [bys_length,List.length_drop];omega),bys_take]
theorem ofNat64_add (a b:Nat):UInt64.ofNat a+UInt64.ofNat b=UInt64.ofNat (a+b):=(UInt64.ofNat_add a b).symm
end Go.PBYtfpdnpppcoomnaaGreat

