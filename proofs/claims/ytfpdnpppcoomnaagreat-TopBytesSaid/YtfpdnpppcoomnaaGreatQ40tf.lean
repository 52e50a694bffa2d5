/- Words and laws that the proofs of this seat share, part 6 of 10. No condition. -/
import Derived.Test.YtfpdnpppcoomnaaGreatQ40te
set_option linter.unusedVariables false
set_option linter.unusedSimpArgs false
set_option linter.defProp false
set_option maxRecDepth 100000
set_option maxHeartbeats 16000000
namespace Go.PBYtfpdnpppcoomnaaGreat
open Go Go.RowKit
def pN:Nat:=57896044618658097711785492504343953926634992332820282019728792003956564819949
abbrev pZ:Int:=57896044618658097711785492504343953926634992332820282019728792003956564819949
def valI:List Int→Int
 | []=>0
 | x::r=>x+65536*valI r
theorem getD_set {α:Type} (l:List α) (i j:Nat) (x d:α) (hi:i<l.length):(l.set i x).getD j d=if i=j then x else l.getD j d:=by
 rw [List.getD_eq_getElem?_getD,List.getD_eq_getElem?_getD,List.getElem?_set]
 by_cases h:i=j
 ·subst h;simp [hi]
 ·rw [if_neg h,if_neg h]
theorem two_set {l:List Int} {i k:Nat} {a b:Int} (j:Nat) (hi:i<l.length) (hk:k<l.length) (hne:i≠k):((l.set i a).set k ((l.set i a).getD k 0+b)).getD j 0=if k=j then l.getD k 0+b else if i=j then a else l.getD j 0:=by
 rw [getD_set _ k j _ _ (by simp;exact hk)]
 by_cases h:k=j
 ·rw [if_pos h,if_pos h,getD_set _ i k _ _ hi,if_neg hne]
 ·rw [if_neg h,if_neg h,getD_set _ i j _ _ hi]
theorem valI_set:∀ (l:List Int) (i:Nat) (x:Int),i<l.length→valI (l.set i x)=valI l+(x-l.getD i 0)*65536^i
 | [],i,x,h=>by simp at h
 | y::l,0,x,h=>by simp [valI];omega
 | y::l,i+1,x,h=>by
  have ih:=valI_set l i x (by simpa using h)
  rw [List.set_cons_succ,valI,ih,valI]
  have e:(y::l).getD (i+1) 0=l.getD i 0:=by simp
  rw [e,Int.pow_succ 65536 i,Int.mul_add]
  have:65536*((x-l.getD i 0)*65536^i)=(x-l.getD i 0)*(65536^i*65536):=by
   rw [Int.mul_comm 65536,Int.mul_assoc]
  omega
def cSt (v:List Int):Nat→List Int
 | 0=>v
 | i+1 =>
  let s:=cSt v i
  let c:=s.getD i 0 / 2^16
  let s1:=s.set i (s.getD i 0-c*2^16)
  if i<15 then s1.set (i+1) (s1.getD (i+1) 0+c) else s1.set 0 (s1.getD 0 0+38*c)
def carryL (v:List Int):List Int:=cSt v 16
theorem cSt_length (v:List Int):∀ i,(cSt v i).length=v.length
 | 0=>rfl
 | i+1=>by
  have ih:=cSt_length v i
  unfold cSt
  simp only
  split<;>simp [ih]
theorem carryL_length (v:List Int):(carryL v).length=v.length:=cSt_length v 16
def cOut (v:List Int):Nat→Int
 | 0=>0
 | i+1=>(v.getD i 0+cOut v i) / 65536
theorem cSt_get {v:List Int} (hv:v.length=16):∀ i,i≤15→∀ j,j<16→(cSt v i).getD j 0=if j<i then (v.getD j 0+cOut v j) % 65536 else if j=i then v.getD j 0+cOut v j else v.getD j 0
 | 0,_,j,hj=>by
  rw [cSt,if_neg (by omega)]
  split
  ·rename_i h;subst h;simp [cOut]
  ·rfl
 | i+1,hi,j,hj=>by
  have ih:=cSt_get hv i (by omega)
  have hl:=(cSt_length v i).trans hv
  have hsi:=ih i (by omega)
  rw [if_neg (by omega),if_pos rfl] at hsi
  have hsi1:=ih (i+1) (by omega)
  rw [if_neg (by omega),if_neg (by omega)] at hsi1
  unfold cSt
  simp only
  rw [if_pos (by omega),two_set j (by omega) (by omega) (by omega),hsi1,hsi]
  by_cases h1:i+1=j
  ·subst h1
   rw [if_pos rfl,if_neg (by omega),if_pos rfl,cOut]
   rfl
  ·rw [if_neg h1]
   by_cases h2:i=j
   ·subst h2
    rw [if_pos rfl,if_pos (by omega)]
    have h3:=Int.emod_add_mul_ediv (v.getD i 0+cOut v i) 65536
    omega
   ·rw [if_neg h2,ih j hj]
    by_cases h3:j<i
    ·rw [if_pos h3,if_pos (by omega)]
    ·rw [if_neg h3,if_neg (by omega),if_neg (by omega),if_neg (by omega)]
theorem carryL_get {v:List Int} (hv:v.length=16) (j:Nat) (hj:j<16):(carryL v).getD j 0=if j=0 then (v.getD 0 0) % 65536+38*cOut v 16 else (v.getD j 0+cOut v j) % 65536:=by
 have ih:=cSt_get hv 15 (by omega)
 have hl:=(cSt_length v 15).trans hv
 have hsi:=ih 15 (by omega)
 rw [if_neg (by omega),if_pos rfl] at hsi
 have h0:=ih 0 (by omega)
 rw [if_pos (by omega),cOut,Int.add_zero] at h0
 unfold carryL cSt
 simp only
 rw [if_neg (show ¬ (15<15) by omega),two_set j (by omega) (by omega) (by omega),h0,hsi]
 by_cases h1:0=j
 ·subst h1
  rw [if_pos rfl,if_pos rfl]
  rfl
 ·rw [if_neg h1,if_neg (show ¬ j=0 by omega)]
  by_cases h2:15=j
  ·subst h2
   rw [if_pos rfl]
   have h3:=Int.emod_add_mul_ediv (v.getD 15 0+cOut v 15) 65536
   omega
  ·rw [if_neg h2,ih j hj,if_pos (by omega)]
theorem cSt_val {v:List Int} (hv:v.length=16):∀ i,i≤15→valI (cSt v i)=valI v
 | 0,_=>rfl
 | i+1,hi=>by
  have ih:=cSt_val hv i (by omega)
  have hl:=(cSt_length v i).trans hv
  unfold cSt
  simp only
  rw [if_pos (by omega),valI_set _ _ _ (by simp [hl];omega),valI_set _ _ _ (by omega),ih,Int.pow_succ 65536 i]
  generalize (cSt v i).getD i 0 / 2^16=c
  have e1:∀ a b:Int,a+b-a=b:=by intro a b;omega
  have e2:(cSt v i).getD i 0-c*2^16-(cSt v i).getD i 0 = -(c*65536):=by omega
  rw [e1,e2,Int.neg_mul,Int.mul_assoc,Int.mul_comm 65536]
  omega
theorem carryL_val {v:List Int} (hv:v.length=16):valI (carryL v)=valI v-2*pZ*cOut v 16:=by
 have ih:=cSt_val hv 15 (by omega)
 have hl:=(cSt_length v 15).trans hv
 have hsi:=cSt_get hv 15 (by omega) 15 (by omega)
 rw [if_neg (by omega),if_pos rfl] at hsi
 unfold carryL cSt
 simp only
 rw [if_neg (by omega),valI_set _ _ _ (by simp [hl]),valI_set _ _ _ (by omega),ih,hsi]
 have hc:(v.getD 15 0+cOut v 15) / 2^16=cOut v 16:=rfl
 rw [hc]
 generalize cOut v 16=c
 have e1:∀ a b:Int,a+b-a=b:=by intro a b;omega
 have e2:v.getD 15 0+cOut v 15-c*2^16-(v.getD 15 0+cOut v 15) = -(c*65536):=by omega
 rw [e1,e2,show (65536:Int)^15=1766847064778384329583297500742918515827483896875618958121606201292619776 by decide,Int.pow_zero]
 simp only [pZ]
 omega
theorem cOut_bound {v:List Int} {M K:Int} (hM:∀ j,j<16 → -M≤v.getD j 0∧v.getD j 0≤M) (hK:M+K≤65536*(K-1)) (hK0:0≤K):∀ i,i≤16 → -K≤cOut v i∧cOut v i≤K
 | 0,_=>by simp only [cOut];omega
 | i+1,hi=>by
  have ih:=cOut_bound hM hK hK0 i (by omega)
  have h:=hM i (by omega)
  simp only [cOut]
  omega
def okE (v:List Int):Prop:=v.length=16∧(-131072≤v.getD 0 0∧v.getD 0 0≤131072)∧∀ j,1≤j→j<16→0≤v.getD j 0∧v.getD j 0≤65535
theorem okE.all {v:List Int} (h:okE v):∀ j,j<16 → -131072≤v.getD j 0∧v.getD j 0≤131072:=by
 intro j hj
 obtain ⟨h1,h2,h3⟩:=h
 by_cases h0:j=0
 ·subst h0;exact h2
 ·have:=h3 j (by omega) hj;omega
theorem carryL_okE {v:List Int} (hv:v.length=16) (hM:∀ j,j<16 → -524288≤v.getD j 0∧v.getD j 0≤524288):okE (carryL v):=by
 have hc:=cOut_bound (K:=10) hM (by omega) (by omega) 16 (by omega)
 refine ⟨(carryL_length v).trans hv,?_,?_⟩
 ·rw [carryL_get hv 0 (by omega),if_pos rfl];omega
 ·intro j h1 h2
  rw [carryL_get hv j h2,if_neg (by omega)]
  omega
theorem carry2_okE {v:List Int} (hv:v.length=16) (hM:∀ j,j<16 → -1152921504606846976≤v.getD j 0∧v.getD j 0≤1152921504606846976):okE (carryL (carryL v)):=by
 have hc:=cOut_bound (K:=35184372088832) hM (by omega) (by omega) 16 (by omega)
 have hl:=(carryL_length v).trans hv
 have g0:=carryL_get hv 0 (by omega)
 rw [if_pos rfl] at g0
 have gj:∀ j,1≤j→j<16→0≤(carryL v).getD j 0∧(carryL v).getD j 0≤65535:=by
  intro j h1 h2
  rw [carryL_get hv j h2,if_neg (by omega)]
  omega
 generalize carryL v=u at hl g0 gj
 have c1 : -20401094656≤cOut u 1∧cOut u 1≤20401094656:=by simp only [cOut];omega
 have g1:=gj 1 (by omega) (by omega)
 have c2 : -311298≤cOut u 2∧cOut u 2≤311298:=by rw [cOut];omega
 have g2:=gj 2 (by omega) (by omega)
 have c3 : -6≤cOut u 3∧cOut u 3≤6:=by rw [cOut];omega
 have ck:∀ k,3+k≤16 → -6≤cOut u (3+k)∧cOut u (3+k)≤6:=by
  intro k
  induction k with
  | zero=>intro _;exact c3
  | succ k ih =>
   intro h
   have ih:=ih (by omega)
   have gk:=gj (3+k) (by omega) (by omega)
   show -6≤(u.getD (3+k) 0+cOut u (3+k)) / 65536∧(u.getD (3+k) 0+cOut u (3+k)) / 65536≤6
   omega
 have c16 : -6≤cOut u 16∧cOut u 16≤6:=ck 13 (by omega)
 refine ⟨(carryL_length u).trans hl,?_,?_⟩
 ·rw [carryL_get hl 0 (by omega),if_pos rfl];omega
 ·intro j h1 h2
  rw [carryL_get hl j h2,if_neg (by omega)]
  omega
def addSt (e f:List Int):Nat→List Int
 | 0=>e
 | i+1=>(addSt e f i).set i ((addSt e f i).getD i 0+f.getD i 0)
def subSt (e f:List Int):Nat→List Int
 | 0=>e
 | i+1=>(subSt e f i).set i ((subSt e f i).getD i 0-f.getD i 0)
theorem addSt_length (e f:List Int):∀ i,(addSt e f i).length=e.length
 | 0=>rfl
 | i+1=>by rw [addSt,List.length_set,addSt_length]
theorem subSt_length (e f:List Int):∀ i,(subSt e f i).length=e.length
 | 0=>rfl
 | i+1=>by rw [subSt,List.length_set,subSt_length]
theorem addSt_get {e f:List Int} (he:e.length=16):∀ i,i≤16→∀ j,(addSt e f i).getD j 0=if j<i then e.getD j 0+f.getD j 0 else e.getD j 0
 | 0,_,j=>by simp [addSt]
 | i+1,hi,j=>by
  have ih:=addSt_get (f:=f) he i (by omega)
  rw [addSt,getD_set _ _ _ _ _ (by rw [addSt_length];omega),ih i,if_neg (show ¬ i<i by omega),ih j]
  by_cases h:i=j
  ·subst h;rw [if_pos rfl,if_pos (by omega)]
  ·rw [if_neg h]
   by_cases h2:j<i
   ·rw [if_pos h2,if_pos (by omega)]
   ·rw [if_neg h2,if_neg (by omega)]
theorem subSt_get {e f:List Int} (he:e.length=16):∀ i,i≤16→∀ j,(subSt e f i).getD j 0=if j<i then e.getD j 0-f.getD j 0 else e.getD j 0
 | 0,_,j=>by simp [subSt]
 | i+1,hi,j=>by
  have ih:=subSt_get (f:=f) he i (by omega)
  rw [subSt,getD_set _ _ _ _ _ (by rw [subSt_length];omega),ih i,if_neg (show ¬ i<i by omega),ih j]
  by_cases h:i=j
  ·subst h;rw [if_pos rfl,if_pos (by omega)]
  ·rw [if_neg h]
   by_cases h2:j<i
   ·rw [if_pos h2,if_pos (by omega)]
   ·rw [if_neg h2,if_neg (by omega)]
theorem valI_snoc:∀ (l:List Int) (i:Nat),i<l.length→valI (l.take (i+1))=valI (l.take i)+l.getD i 0*65536^i
 | [],i,h=>by simp at h
 | x::l,0,h=>by simp [valI]
 | x::l,i+1,h=>by
  have ih:=valI_snoc l i (by simpa using h)
  rw [List.take_succ_cons,List.take_succ_cons,valI,valI,ih]
  have e:(x::l).getD (i+1) 0=l.getD i 0:=by simp
  rw [e,Int.mul_add,Int.pow_succ 65536 i]
  have:65536*(l.getD i 0*65536^i)=l.getD i 0*(65536^i*65536):=by rw [Int.mul_comm 65536,Int.mul_assoc]
  omega
theorem addSt_val {e f:List Int} (he:e.length=16) (hf:f.length=16):∀ i,i≤16→valI (addSt e f i)=valI e+valI (f.take i)
 | 0,_=>by simp [addSt,valI]
 | i+1,hi=>by
  have ih:=addSt_val he hf i (by omega)
  rw [addSt,valI_set _ _ _ (by rw [addSt_length];omega),ih,valI_snoc f i (by omega)]
  have e1:∀ a b:Int,a+b-a=b:=by intro a b;omega
  rw [e1]
  omega
theorem subSt_val {e f:List Int} (he:e.length=16) (hf:f.length=16):∀ i,i≤16→valI (subSt e f i)=valI e-valI (f.take i)
 | 0,_=>by simp [subSt,valI]
 | i+1,hi=>by
  have ih:=subSt_val he hf i (by omega)
  rw [subSt,valI_set _ _ _ (by rw [subSt_length];omega),ih,valI_snoc f i (by omega)]
  have e1:∀ a b:Int,a-b-a = -b:=by intro a b;omega
  rw [e1,Int.neg_mul]
  omega
def addL (e f:List Int):List Int:=carryL (addSt e f 16)
def subL (e f:List Int):List Int:=carryL (subSt e f 16)
theorem addL_okE {e f:List Int} (he:okE e) (hf:okE f):okE (addL e f):=by
 refine carryL_okE ((addSt_length e f 16).trans he.1) fun j hj=>?_
 rw [addSt_get he.1 16 (by omega),if_pos hj]
 have h1:=he.all j hj
 have h2:=hf.all j hj
 omega
theorem subL_okE {e f:List Int} (he:okE e) (hf:okE f):okE (subL e f):=by
 refine carryL_okE ((subSt_length e f 16).trans he.1) fun j hj=>?_
 rw [subSt_get he.1 16 (by omega),if_pos hj]
 have h1:=he.all j hj
 have h2:=hf.all j hj
 omega
theorem addL_val {e f:List Int} (he:okE e) (hf:okE f):valI (addL e f) % pZ=(valI e+valI f) % pZ:=by
 rw [addL,carryL_val ((addSt_length e f 16).trans he.1),addSt_val he.1 hf.1 16 (by omega),List.take_of_length_le (by rw [hf.1];omega),Int.mul_comm 2,Int.mul_assoc,Int.sub_mul_emod_self_left]
theorem subL_val {e f:List Int} (he:okE e) (hf:okE f):valI (subL e f) % pZ=(valI e-valI f) % pZ:=by
 rw [subL,carryL_val ((subSt_length e f 16).trans he.1),subSt_val he.1 hf.1 16 (by omega),List.take_of_length_le (by rw [hf.1];omega),Int.mul_comm 2,Int.mul_assoc,Int.sub_mul_emod_self_left]
def mulIn (e f:List Int) (i:Nat) (t:List Int):Nat→List Int
 | 0=>t
 | k+1=>(mulIn e f i t k).set (i+k) ((mulIn e f i t k).getD (i+k) 0+e.getD i 0*f.getD k 0)
def mulOut (e f:List Int):Nat→List Int
 | 0=>List.replicate 32 0
 | i+1=>mulIn e f i (mulOut e f i) 16
theorem mulIn_length (e f:List Int) (i:Nat) (t:List Int):∀ k,(mulIn e f i t k).length=t.length
 | 0=>rfl
 | k+1=>by rw [mulIn,List.length_set,mulIn_length]
theorem mulOut_length (e f:List Int):∀ i,(mulOut e f i).length=32
 | 0=>rfl
 | i+1=>by rw [mulOut,mulIn_length,mulOut_length]
theorem mulIn_val {e f:List Int} {i:Nat} {t:List Int} (hf:f.length=16) (hi:i<16) (ht:t.length=32):∀ k,k≤16→valI (mulIn e f i t k)=valI t+e.getD i 0*65536^i*valI (f.take k)
 | 0,_=>by simp [mulIn,valI]
 | k+1,hk=>by
  have ih:=mulIn_val (e:=e) (i:=i) hf hi ht k (by omega)
  rw [mulIn,valI_set _ _ _ (by rw [mulIn_length];omega),ih,valI_snoc f k (by omega)]
  have e1:∀ a b:Int,a+b-a=b:=by intro a b;omega
  rw [e1,Int.pow_add,Int.mul_add]
  have e2:e.getD i 0*f.getD k 0*(65536^i*65536^k)=e.getD i 0*65536^i*(f.getD k 0*65536^k):=by
   rw [Int.mul_assoc,Int.mul_assoc,Int.mul_left_comm (f.getD k 0)]
  omega
theorem mulOut_val {e f:List Int} (he:e.length=16) (hf:f.length=16):∀ i,i≤16→valI (mulOut e f i)=valI (e.take i)*valI f
 | 0,_=>by
  have:∀ n,valI (List.replicate n 0)=0:=by
   intro n
   induction n with
   | zero=>rfl
   | succ n ih=>rw [List.replicate_succ,valI,ih];rfl
  rw [mulOut,this]
  simp [valI]
 | i+1,hi=>by
  have ih:=mulOut_val he hf i (by omega)
  rw [mulOut,mulIn_val hf (by omega) (mulOut_length e f i) 16 (by omega),ih,valI_snoc e i (by omega),List.take_of_length_le (l:=f) (by omega),Int.add_mul]
theorem mulIn_bound {e f:List Int} {i:Nat} {t:List Int} {B M:Int} (he:∀ j,j<16 → -B≤e.getD j 0∧e.getD j 0≤B) (hf:∀ j,j<16 → -B≤f.getD j 0∧f.getD j 0≤B) (hB:0≤B) (hi:i<16) (ht:t.length=32)
 (hM:∀ j,j<32 → -M≤t.getD j 0∧t.getD j 0≤M):∀ k,k≤16→∀ j,j<32→(-(M+B*B)≤(mulIn e f i t k).getD j 0∧(mulIn e f i t k).getD j 0≤M+B*B)∧(i+k≤j→(mulIn e f i t k).getD j 0=t.getD j 0)
 | 0,_,j,hj=>by
  have h:=hM j hj
  have hBB:0≤B*B:=Int.mul_nonneg hB hB
  rw [mulIn]
  exact ⟨by omega,fun _=>rfl⟩
 | k+1,hk,j,hj=>by
  have ih:=mulIn_bound he hf hB hi ht hM k (by omega)
  have hBB:0≤B*B:=Int.mul_nonneg hB hB
  rw [mulIn,getD_set _ _ _ _ _ (by rw [mulIn_length];omega)]
  by_cases h:i+k=j
  ·subst h
   rw [if_pos rfl,(ih (i+k) (by omega)).2 (Nat.le_refl _)]
   have h1:=hM (i+k) (by omega)
   obtain ⟨a1,a2⟩:=he i (by omega)
   obtain ⟨b1,b2⟩:=hf k (by omega)
   have h2:(e.getD i 0*f.getD k 0).natAbs≤(B*B).natAbs:=by
    rw [Int.natAbs_mul,Int.natAbs_mul]
    exact Nat.mul_le_mul (by omega) (by omega)
   exact ⟨by omega,fun h=>by omega⟩
  ·rw [if_neg h]
   exact ⟨(ih j hj).1,fun h2=>(ih j hj).2 (by omega)⟩
theorem rep0 (m j:Nat):(List.replicate m (0:Int)).getD j 0=0:=by
 rw [List.getD_eq_getElem?_getD,List.getElem?_replicate]
 split<;>rfl
theorem mulOut_bound {e f:List Int} {B:Int} (he:∀ j,j<16 → -B≤e.getD j 0∧e.getD j 0≤B) (hf:∀ j,j<16 → -B≤f.getD j 0∧f.getD j 0≤B) (hB:0≤B):∀ i:Nat,i≤16→∀ j,j<32 → -((i:Int)*(B*B))≤(mulOut e f i).getD j 0∧(mulOut e f i).getD j 0≤(i:Int)*(B*B)
 | 0,_,j,hj=>by
  rw [mulOut,rep0]
  simp
 | i+1,hi,j,hj=>by
  have ih:=mulOut_bound he hf hB i (by omega)
  have h:=(mulIn_bound (i:=i) (M:=(i:Int)*(B*B)) he hf hB (by omega) (mulOut_length e f i) ih 16 (by omega) j hj).1
  rw [mulOut]
  have e1:((i+1:Nat):Int)*(B*B)=(i:Int)*(B*B)+B*B:=by rw [Int.natCast_add,Int.add_mul];simp
  rw [e1]
  exact h
def foldSt (t:List Int):Nat→List Int
 | 0=>List.replicate 16 0
 | i+1=>(foldSt t i).set i (t.getD i 0+38*t.getD (i+16) 0)
theorem foldSt_length (t:List Int):∀ i,(foldSt t i).length=16
 | 0=>rfl
 | i+1=>by rw [foldSt,List.length_set,foldSt_length]
theorem foldSt_get {t:List Int}:∀ i,i≤16→∀ j,j<16→(foldSt t i).getD j 0=if j<i then t.getD j 0+38*t.getD (j+16) 0 else 0
 | 0,_,j,hj=>by rw [foldSt,rep0,if_neg (Nat.not_lt_zero j)]
 | i+1,hi,j,hj=>by
  have ih:=foldSt_get (t:=t) i (by omega)
  rw [foldSt,getD_set _ _ _ _ _ (by rw [foldSt_length];omega),ih j hj]
  by_cases h:i=j
  ·subst h;rw [if_pos rfl,if_pos (by omega)]
  ·rw [if_neg h]
   by_cases h2:j<i
   ·rw [if_pos h2,if_pos (by omega)]
   ·rw [if_neg h2,if_neg (by omega)]
theorem valI_append:∀ (a b:List Int),valI (a++b)=valI a+65536^a.length*valI b
 | [],b=>by simp [valI]
 | x::a,b=>by
  rw [List.cons_append,valI,valI,valI_append a b,List.length_cons,Int.pow_succ,Int.mul_add]
  have:65536^a.length*65536*valI b=65536*(65536^a.length*valI b):=by rw [Int.mul_comm (65536^a.length),Int.mul_assoc]
  omega
theorem foldSt_val {t:List Int} (ht:t.length=32):∀ i,i≤16→valI (foldSt t i)=valI (t.take i)+38*valI ((t.drop 16).take i)
 | 0,_=>by
  have:∀ n,valI (List.replicate n 0)=0:=by
   intro n
   induction n with
   | zero=>rfl
   | succ n ih=>rw [List.replicate_succ,valI,ih];rfl
  rw [foldSt,this]
  simp [valI]
 | i+1,hi=>by
  have ih:=foldSt_val ht i (by omega)
  rw [foldSt,valI_set _ _ _ (by rw [foldSt_length];omega),ih,foldSt_get i (by omega) i (by omega),if_neg (by omega),valI_snoc t i (by omega),valI_snoc (t.drop 16) i (by rw [List.length_drop];omega)]
  have e:(t.drop 16).getD i 0=t.getD (i+16) 0:=by rw [List.getD_eq_getElem?_getD,List.getElem?_drop,Nat.add_comm,List.getD_eq_getElem?_getD]
  rw [e,Int.sub_zero,Int.add_mul,Int.mul_add,Int.mul_assoc]
  omega
def mulL (e f:List Int):List Int:=carryL (carryL (foldSt (mulOut e f 16) 16))
theorem fold_bound {e f:List Int} (he:okE e) (hf:okE f):∀ j,j<16 → -1152921504606846976≤(foldSt (mulOut e f 16) 16).getD j 0∧(foldSt (mulOut e f 16) 16).getD j 0≤1152921504606846976:=by
 intro j hj
 rw [foldSt_get 16 (by omega) j hj,if_pos hj]
 have hb:=mulOut_bound he.all hf.all (by omega) 16 (by omega)
 have h1:=hb j (by omega)
 have h2:=hb (j+16) (by omega)
 omega
theorem fold_bound2 {e f:List Int} (he:okE e) (hf:okE f):∀ j,j<16 → -1152921504606846976≤(carryL (foldSt (mulOut e f 16) 16)).getD j 0∧(carryL (foldSt (mulOut e f 16) 16)).getD j 0≤1152921504606846976:=by
 intro j hj
 have hl:=foldSt_length (mulOut e f 16) 16
 have hc:=cOut_bound (K:=35184372088832) (fold_bound he hf) (by omega) (by omega) 16 (by omega)
 rw [carryL_get hl j hj]
 split<;>omega
theorem mulL_okE {e f:List Int} (he:okE e) (hf:okE f):okE (mulL e f):=carry2_okE (foldSt_length _ 16) (fold_bound he hf)
theorem sub_p (a c:Int):(a-2*pZ*c) % pZ=a % pZ:=by
 rw [Int.mul_comm 2,Int.mul_assoc]
 exact Int.sub_mul_emod_self_left a pZ (2*c)
theorem mulL_val {e f:List Int} (he:okE e) (hf:okE f):valI (mulL e f) % pZ=(valI e*valI f) % pZ:=by
 have hl:=foldSt_length (mulOut e f 16) 16
 have hm:=mulOut_length e f 16
 rw [mulL,carryL_val ((carryL_length _).trans hl),sub_p,carryL_val hl,sub_p,foldSt_val hm 16 (by omega)]
 have hs:valI (mulOut e f 16)=valI ((mulOut e f 16).take 16)+65536^16*valI ((mulOut e f 16).drop 16):=by
  have h1:=valI_append ((mulOut e f 16).take 16) ((mulOut e f 16).drop 16)
  rw [List.take_append_drop,List.length_take,hm] at h1
  exact h1
 have hv:=mulOut_val he.1 hf.1 16 (by omega)
 rw [List.take_of_length_le (by rw [he.1];omega)] at hv
 rw [List.take_of_length_le (l:=(mulOut e f 16).drop 16) (by rw [List.length_drop,hm];omega),← hv,hs]
 have e2:valI ((mulOut e f 16).take 16)+38*valI ((mulOut e f 16).drop 16)=valI ((mulOut e f 16).take 16)+65536^16*valI ((mulOut e f 16).drop 16)-2*pZ*valI ((mulOut e f 16).drop 16):=by
  rw [show (65536:Int)^16=115792089237316195423570985008687907853269984665640564039457584007913129639936 by decide]
  simp only [pZ]
  omega
 rw [e2,sub_p]
def invSt (e:List Int):Nat→List Int
 | 0=>e
 | k+1 =>
  let o:=mulL (invSt e k) (invSt e k)
  if 253-k=2∨253-k=4 then o else mulL o e
def invL (e:List Int):List Int:=invSt e 254
theorem invSt_okE {e:List Int} (he:okE e):∀ k,okE (invSt e k)
 | 0=>he
 | k+1=>by
  have ih:=invSt_okE he k
  have h2:=mulL_okE ih ih
  unfold invSt
  simp only
  split
  ·exact h2
  ·exact mulL_okE h2 he
theorem invL_okE {e:List Int} (he:okE e):okE (invL e):=invSt_okE he 254
def invP:Nat→Nat
 | 0=>1
 | k+1=>if 253-k=2∨253-k=4 then 2*invP k else 2*invP k+1
theorem invP_all:invP 254=pN-2:=by decide +kernel
theorem emod_mul {a b c d m:Int} (h1:a % m=c % m) (h2:b % m=d % m):(a*b) % m=(c*d) % m:=by
 rw [Int.mul_emod,h1,h2,← Int.mul_emod]
theorem invSt_val {e:List Int} (he:okE e):∀ k,valI (invSt e k) % pZ=(valI e)^(invP k) % pZ
 | 0=>by rw [invSt,invP,Int.pow_one]
 | k+1=>by
  have ih:=invSt_val he k
  have hk:=invSt_okE he k
  have h2:valI (mulL (invSt e k) (invSt e k)) % pZ=(valI e)^(2*invP k) % pZ:=by
   rw [mulL_val hk hk,emod_mul ih ih,Nat.two_mul,Int.pow_add]
  unfold invSt invP
  simp only
  split
  ·exact h2
  ·rw [mulL_val (mulL_okE hk hk) he,emod_mul h2 rfl,Int.pow_succ]
theorem invL_val {e:List Int} (he:okE e):valI (invL e) % pZ=(valI e)^(pN-2) % pZ:=by
 rw [invL,invSt_val he 254,invP_all]
def leZ:List UInt8→Int
 | []=>0
 | x::r=>(x.toNat:Int)+256*leZ r
theorem leZ_nonneg:∀ l:List UInt8,0≤leZ l
 | []=>by simp [leZ]
 | x::r=>by have:=leZ_nonneg r;rw [leZ];omega
theorem leZ_lt:∀ l:List UInt8,leZ l<256^l.length
 | []=>by simp [leZ]
 | x::r=>by
  have:=leZ_lt r
  have hx:=UInt8.toNat_lt x
  rw [leZ,List.length_cons,Int.pow_succ]
  omega
theorem leZ_set:∀ (l:List UInt8) (i:Nat) (x:UInt8),i<l.length→leZ (l.set i x)=leZ l+((x.toNat:Int)-((l.getD i 0).toNat:Int))*256^i
 | [],i,x,h=>by simp at h
 | y::l,0,x,h=>by simp [leZ];omega
 | y::l,i+1,x,h=>by
  have ih:=leZ_set l i x (by simpa using h)
  rw [List.set_cons_succ,leZ,ih,leZ]
  have e:(y::l).getD (i+1) 0=l.getD i 0:=by simp
  rw [e,Int.pow_succ 256 i,Int.mul_add]
  have:256*(((x.toNat:Int)-((l.getD i 0).toNat:Int))*256^i)=((x.toNat:Int)-((l.getD i 0).toNat:Int))*(256^i*256):=by
   rw [Int.mul_comm 256,Int.mul_assoc]
  omega
theorem leZ_inj:∀ {a b:List UInt8},a.length=b.length→leZ a=leZ b→a=b
 | [],[],_,_=>rfl
 | [],y::b,h,_=>by simp at h
 | x::a,[],h,_=>by simp at h
 | x::a,y::b,h,e=>by
  rw [leZ,leZ] at e
  have hx:=UInt8.toNat_lt x
  have hy:=UInt8.toNat_lt y
  have h1:x.toNat=y.toNat:=by omega
  have h2:leZ a=leZ b:=by omega
  rw [UInt8.toNat_inj.1 h1,leZ_inj (by simpa using h) h2]
def bN:Nat→Nat→List UInt8
 | 0,_=>[]
 | m+1,x=>UInt8.ofNat x::bN m (x / 256)
theorem bN_length:∀ m x,(bN m x).length=m
 | 0,_=>rfl
 | m+1,x=>by rw [bN,List.length_cons,bN_length m]
theorem leZ_bN:∀ m x,x<256^m→leZ (bN m x)=(x:Int)
 | 0,x,h=>by simp only [Nat.pow_zero] at h;rw [bN,leZ];omega
 | m+1,x,h=>by
  rw [bN,leZ,leZ_bN m (x / 256) (by rw [Nat.pow_succ] at h;omega),UInt8.toNat_ofNat']
  omega
theorem bN_leZ {l:List UInt8} {m:Nat} (hl:l.length=m):bN m (leZ l).toNat=l:=by
 have h1:=leZ_nonneg l
 have h2:=leZ_lt l
 rw [hl] at h2
 refine leZ_inj ((bN_length m _).trans hl.symm) ?_
 rw [leZ_bN]
 ·omega
 ·have:((256^m:Nat):Int)=256^m:=Int.natCast_pow 256 m
  omega
def ofSt (k:List UInt8):Nat→List Int
 | 0=>List.replicate 16 0
 | i+1=>(ofSt k i).set i (((k.getD (2*i) 0).toNat+256*(k.getD (2*i+1) 0).toNat:Nat):Int)
def ofL (k:List UInt8):List Int:=(ofSt k 16).set 15 ((ofSt k 16).getD 15 0 % 2^15)
theorem ofSt_length (k:List UInt8):∀ i,(ofSt k i).length=16
 | 0=>rfl
 | i+1=>by rw [ofSt,List.length_set,ofSt_length]
theorem ofSt_get {k:List UInt8}:∀ i,i≤16→∀ j,j<16→(ofSt k i).getD j 0=if j<i then (((k.getD (2*j) 0).toNat+256*(k.getD (2*j+1) 0).toNat:Nat):Int) else 0
 | 0,_,j,hj=>by rw [ofSt,rep0,if_neg (Nat.not_lt_zero j)]
 | i+1,hi,j,hj=>by
  have ih:=ofSt_get (k:=k) i (by omega)
  rw [ofSt,getD_set _ _ _ _ _ (by rw [ofSt_length];omega),ih j hj]
  by_cases h:i=j
  ·subst h;rw [if_pos rfl,if_pos (by omega)]
  ·rw [if_neg h]
   by_cases h2:j<i
   ·rw [if_pos h2,if_pos (by omega)]
   ·rw [if_neg h2,if_neg (by omega)]
theorem leZ_snoc:∀ (l:List UInt8) (i:Nat),i<l.length→leZ (l.take (i+1))=leZ (l.take i)+((l.getD i 0).toNat:Int)*256^i
 | [],i,h=>by simp at h
 | x::l,0,h=>by simp [leZ]
 | x::l,i+1,h=>by
  have ih:=leZ_snoc l i (by simpa using h)
  rw [List.take_succ_cons,List.take_succ_cons,leZ,leZ,ih]
  have e:(x::l).getD (i+1) 0=l.getD i 0:=by simp
  rw [e,Int.mul_add,Int.pow_succ 256 i]
  have:256*(((l.getD i 0).toNat:Int)*256^i)=((l.getD i 0).toNat:Int)*(256^i*256):=by rw [Int.mul_comm 256,Int.mul_assoc]
  omega
theorem p2 (i:Nat):(256:Int)^(2*i)=65536^i:=by
 rw [Int.pow_mul]
 rfl
theorem valI_rep:∀ n,valI (List.replicate n 0)=0
 | 0=>rfl
 | n+1=>by rw [List.replicate_succ,valI,valI_rep n];rfl
theorem ofSt_val {k:List UInt8} (hk:k.length=32):∀ i,i≤16→valI (ofSt k i)=leZ (k.take (2*i))
 | 0,_=>by rw [ofSt,valI_rep];simp [leZ]
 | i+1,hi=>by
  have ih:=ofSt_val hk i (by omega)
  rw [ofSt,valI_set _ _ _ (by rw [ofSt_length];omega),ih,ofSt_get i (by omega) i (by omega),if_neg (by omega),show 2*(i+1)=2*i+1+1 by omega,leZ_snoc k (2*i+1) (by omega),leZ_snoc k (2*i) (by omega),Int.pow_succ 256 (2*i),p2,Int.sub_zero,Int.natCast_add,Int.add_mul,Int.natCast_mul]
  have:((256:Nat):Int)*((k.getD (2*i+1) 0).toNat:Int)*65536^i=((k.getD (2*i+1) 0).toNat:Int)*(65536^i*256):=by
   rw [Int.mul_comm ((256:Nat):Int),Int.mul_assoc,Int.mul_comm ((256:Nat):Int)]
   rfl
  omega
theorem ofL_dig {k:List UInt8} (hk:k.length=32):(ofL k).length=16∧∀ j,j<16→0≤(ofL k).getD j 0∧(ofL k).getD j 0≤65535:=by
 refine ⟨by rw [ofL,List.length_set,ofSt_length],fun j hj=>?_⟩
 rw [ofL,getD_set _ _ _ _ _ (by rw [ofSt_length];omega),ofSt_get 16 (by omega) j hj,if_pos hj]
 have h1:=UInt8.toNat_lt (k.getD (2*j) 0)
 have h2:=UInt8.toNat_lt (k.getD (2*j+1) 0)
 split<;>omega
theorem ofL_okE {k:List UInt8} (hk:k.length=32):okE (ofL k):=by
 obtain ⟨h1,h2⟩:=ofL_dig hk
 exact ⟨h1,by have:=h2 0 (by omega);omega,fun j _ hj=>h2 j hj⟩
def dig (e:List Int):Prop:=e.length=16∧∀ j,j<16→0≤e.getD j 0∧e.getD j 0≤65535
theorem valI_bound:∀ (l:List Int),(∀ j,j<l.length→0≤l.getD j 0∧l.getD j 0≤65535)→0≤valI l∧valI l<65536^l.length
 | [],_=>by simp [valI]
 | x::l,h=>by
  have ih:=valI_bound l (fun j hj=>by have:=h (j+1) (by simpa using hj);simpa using this)
  have h0:=h 0 (by simp)
  simp only [List.getD_cons_zero] at h0
  rw [valI,List.length_cons,Int.pow_succ]
  omega
theorem p16:(65536:Int)^16=115792089237316195423570985008687907853269984665640564039457584007913129639936:=by decide
theorem dig.bound {e:List Int} (h:dig e):0≤valI e∧valI e<115792089237316195423570985008687907853269984665640564039457584007913129639936:=by
 have:=valI_bound e (fun j hj=>h.2 j (by rw [h.1] at hj;exact hj))
 rw [h.1,p16] at this
 exact this
theorem ofL_val {k:List UInt8} (hk:k.length=32):valI (ofL k)=leZ k % 57896044618658097711785492504343953926634992332820282019728792003956564819968:=by
 have hl:=ofSt_length k 16
 have hv:=ofSt_val hk 16 (by omega)
 rw [List.take_of_length_le (by omega)] at hv
 have h15:valI (ofSt k 16)=valI ((ofSt k 16).take 15)+(ofSt k 16).getD 15 0*65536^15:=by
  have:=valI_snoc (ofSt k 16) 15 (by omega)
  rw [List.take_of_length_le (by omega)] at this
  exact this
 have hb:=valI_bound ((ofSt k 16).take 15) (fun j hj=>by
  rw [List.length_take] at hj
  have e:((ofSt k 16).take 15).getD j 0=(ofSt k 16).getD j 0:=by rw [List.getD_eq_getElem?_getD,List.getElem?_take,if_pos (by omega),List.getD_eq_getElem?_getD]
  rw [e,ofSt_get 16 (by omega) j (by omega),if_pos (by omega)]
  have h1:=UInt8.toNat_lt (k.getD (2*j) 0)
  have h2:=UInt8.toNat_lt (k.getD (2*j+1) 0)
  omega)
 rw [List.length_take,hl,show min 15 16=15 by decide,show (65536:Int)^15=1766847064778384329583297500742918515827483896875618958121606201292619776 by decide] at hb
 rw [ofL,valI_set _ _ _ (by omega),← hv,h15,show (65536:Int)^15=1766847064778384329583297500742918515827483896875618958121606201292619776 by decide]
 generalize (ofSt k 16).getD 15 0=x
 generalize valI ((ofSt k 16).take 15)=y at hb
 omega
theorem carry_dig {v:List Int} (hv:v.length=16):0≤valI v-115792089237316195423570985008687907853269984665640564039457584007913129639936*cOut v 16∧valI v-115792089237316195423570985008687907853269984665640564039457584007913129639936*cOut v 16<115792089237316195423570985008687907853269984665640564039457584007913129639936:=by
 have hl:=(carryL_length v).trans hv
 have hd:dig ((carryL v).set 0 ((v.getD 0 0) % 65536)):=by
  refine ⟨by rw [List.length_set,hl],fun j hj=>?_⟩
  rw [getD_set _ _ _ _ _ (by omega),carryL_get hv j hj]
  by_cases h:0=j
  ·rw [if_pos h];omega
  ·rw [if_neg h,if_neg (by omega)];omega
 have hb:=hd.bound
 rw [valI_set _ _ _ (by omega),carryL_val hv,carryL_get hv 0 (by omega),if_pos rfl] at hb
 simp only [pZ] at hb
 omega
theorem carry_small {v:List Int} (hv:v.length=16) (h0:0≤valI v) (h1:valI v<115792089237316195423570985008687907853269984665640564039457584007913129639936):dig (carryL v)∧valI (carryL v)=valI v:=by
 have hc:=carry_dig hv
 have hc0:cOut v 16=0:=by omega
 refine ⟨⟨(carryL_length v).trans hv,fun j hj=>?_⟩,?_⟩
 ·rw [carryL_get hv j hj,hc0]
  split<;>omega
 ·rw [carryL_val hv,hc0];omega
theorem okE.bound {v:List Int} (h:okE v) : -131072≤valI v∧valI v<115792089237316195423570985008687907853269984665640564039457584007913129771008:=by
 have hd:dig (v.set 0 0):=by
  refine ⟨by rw [List.length_set,h.1],fun j hj=>?_⟩
  rw [getD_set _ _ _ _ _ (by rw [h.1];omega)]
  by_cases h0:0=j
  ·rw [if_pos h0];omega
  ·rw [if_neg h0];exact h.2.2 j (by omega) hj
 have hb:=hd.bound
 rw [valI_set _ _ _ (by rw [h.1];omega)] at hb
 have h2:=h.2.1
 omega
def carryN (v:List Int):Nat→List Int
 | 0=>v
 | i+1=>carryL (carryN v i)
theorem carryN_okE {v:List Int} (h:okE v):∀ i,okE (carryN v i)
 | 0=>h
 | i+1=>by
  have ih:=carryN_okE h i
  exact carryL_okE ih.1 (fun j hj=>by have:=ih.all j hj;omega)
theorem carry3 {v:List Int} (h:okE v):dig (carryN v 3)∧valI (carryN v 3) % pZ=valI v % pZ:=by
 have hb:=h.bound
 have hc:=carry_dig h.1
 have hl1:=(carryL_length v).trans h.1
 have hv1:=carryL_val h.1
 have h1:0≤valI (carryL v)∧valI (carryL v)<115792089237316195423570985008687907853269984665640564039457584007913129639936:=by
  rw [hv1]
  simp only [pZ]
  have:cOut v 16 = -1∨cOut v 16=0∨cOut v 16=1:=by omega
  rcases this with e | e | e<;>rw [e] at hc ⊢<;>omega
 obtain ⟨d2,v2⟩:=carry_small hl1 h1.1 h1.2
 obtain ⟨d3,v3⟩:=carry_small d2.1 (by omega) (by omega)
 refine ⟨d3,?_⟩
 show valI (carryL (carryL (carryL v))) % pZ=_
 rw [v3,v2,hv1,sub_p]
def pD (i:Nat):Int:=if i=0 then 65517 else if i=15 then 32767 else 65535
def lessSt (e:List Int):Nat→List Int × Int
 | 0=>(List.replicate 16 0,0)
 | i+1=>((lessSt e i).1.set i ((e.getD i 0-(pD i+(lessSt e i).2)) % 2^16),(e.getD i 0-(pD i+(lessSt e i).2)) / 2^16 % 2^1)
theorem lessSt_length (e:List Int):∀ i,(lessSt e i).1.length=16
 | 0=>rfl
 | i+1=>by rw [lessSt,List.length_set,lessSt_length]
theorem lessSt_owed (e:List Int):∀ i,(lessSt e i).2=0∨(lessSt e i).2=1
 | 0=>.inl rfl
 | i+1=>by rw [lessSt];omega
def pS:Nat→Int
 | 0=>0
 | i+1=>pS i+pD i*65536^i
theorem pS_all:pS 16=pZ:=by decide +kernel
theorem lessSt_get (e:List Int):∀ i,i≤16→∀ j,j<16→(0≤(lessSt e i).1.getD j 0∧(lessSt e i).1.getD j 0≤65535)∧(i≤j→(lessSt e i).1.getD j 0=0)
 | 0,_,j,hj=>by
  rw [lessSt,rep0]
  omega
 | i+1,hi,j,hj=>by
  have ih:=lessSt_get e i (by omega) j hj
  rw [lessSt,getD_set _ _ _ _ _ (by rw [lessSt_length];omega)]
  by_cases h:i=j
  ·rw [if_pos h];omega
  ·rw [if_neg h];omega
theorem lessSt_val {e:List Int} (he:dig e):∀ i,i≤16→valI (lessSt e i).1=valI (e.take i)-pS i+(lessSt e i).2*65536^i
 | 0,_=>by rw [lessSt,valI_rep];simp [valI,pS]
 | i+1,hi=>by
  have ih:=lessSt_val he i (by omega)
  have hg:=(lessSt_get e i (by omega) i (by omega)).2 (Nat.le_refl _)
  have ho:=lessSt_owed e i
  have hei:=he.2 i (by omega)
  rw [lessSt,valI_set _ _ _ (by rw [lessSt_length];omega),ih,hg,valI_snoc e i (by rw [he.1];omega),pS,Int.sub_zero,Int.pow_succ 65536 i]
  generalize (lessSt e i).2=c at ho
  have hp:0≤pD i∧pD i≤65535:=by unfold pD;split<;>(try split)<;>omega
  have key:(e.getD i 0-(pD i+c)) % 2^16=e.getD i 0-pD i-c+((e.getD i 0-(pD i+c)) / 2^16 % 2^1)*65536:=by omega
  dsimp only
  rw [key,Int.add_mul,Int.sub_mul,Int.sub_mul,Int.mul_assoc,Int.mul_comm 65536 (65536^i)]
  omega
theorem lessSt_dig (e:List Int):dig (lessSt e 16).1:=⟨lessSt_length e 16,fun j hj=>(lessSt_get e 16 (by omega) j hj).1⟩
theorem less_val {e:List Int} (he:dig e):((lessSt e 16).2=1∧valI e<pZ)∨((lessSt e 16).2=0∧pZ≤valI e∧valI (lessSt e 16).1=valI e-pZ):=by
 have hv:=lessSt_val he 16 (by omega)
 rw [List.take_of_length_le (by rw [he.1];omega),pS_all,p16] at hv
 have hb:=(lessSt_dig e).bound
 have hbe:=he.bound
 rcases lessSt_owed e 16 with h | h
 ·right;rw [h] at hv;simp only [pZ] at *;exact ⟨h,by omega,by omega⟩
 ·left;rw [h] at hv;simp only [pZ] at *;exact ⟨h,by omega⟩
def subN (a:List Int):Nat→List Int
 | 0=>a
 | i+1=>if (lessSt (subN a i) 16).2=1 then subN a i else (lessSt (subN a i) 16).1
theorem subN_dig {a:List Int} (h:dig a):∀ i,dig (subN a i)
 | 0=>h
 | i+1=>by
  rw [subN]
  split
  ·exact subN_dig h i
  ·exact lessSt_dig _
theorem sub2 {a:List Int} (h:dig a):valI (subN a 2)=valI a % pZ:=by
 have hb:=h.bound
 have h1:=less_val h
 have hd1:=subN_dig h 1
 have h2:=less_val hd1
 rw [subN]
 have e1:subN a 1=if (lessSt a 16).2=1 then a else (lessSt a 16).1:=rfl
 simp only [pZ] at *
 rcases h1 with ⟨a1,a2⟩ | ⟨a1,a2,a3⟩
 ·rw [if_pos a1] at e1
  rw [e1] at h2 ⊢
  rcases h2 with ⟨b1,b2⟩ | ⟨b1,b2,b3⟩
  ·rw [if_pos b1];omega
  ·omega
 ·rw [if_neg (by omega)] at e1
  rw [e1] at h2 ⊢
  rcases h2 with ⟨b1,b2⟩ | ⟨b1,b2,b3⟩
  ·rw [if_pos b1,a3];omega
  ·rw [if_neg (by omega),b3,a3];omega
def keySt (e:List Int):Nat→List UInt8
 | 0=>List.replicate 32 0
 | i+1=>((keySt e i).set (2*i) (UInt8.ofNat (e.getD i 0 % 256).toNat)).set (2*i+1) (UInt8.ofNat (e.getD i 0 / 2^8 % 256).toNat)
theorem keySt_length (e:List Int):∀ i,(keySt e i).length=32
 | 0=>rfl
 | i+1=>by rw [keySt,List.length_set,List.length_set,keySt_length]
theorem keySt_rest (e:List Int):∀ i,i≤16→∀ j,2*i≤j→j<32→(keySt e i).getD j 0=0
 | 0,_,j,_,hj=>by
  rw [keySt,List.getD_eq_getElem?_getD,List.getElem?_replicate]
  split<;>rfl
 | i+1,hi,j,h1,h2=>by
  have ih:=keySt_rest e i (by omega) j (by omega) h2
  rw [keySt,getD_set _ _ _ _ _ (by rw [List.length_set,keySt_length];omega),if_neg (by omega),getD_set _ _ _ _ _ (by rw [keySt_length];omega),if_neg (by omega),ih]
theorem leZ_rep:∀ n,leZ (List.replicate n 0)=0
 | 0=>rfl
 | n+1=>by rw [List.replicate_succ,leZ,leZ_rep n];rfl
theorem keySt_val {e:List Int} (he:dig e):∀ i,i≤16→leZ (keySt e i)=valI (e.take i)
 | 0,_=>by rw [keySt,leZ_rep];simp [valI]
 | i+1,hi=>by
  have ih:=keySt_val he i (by omega)
  have r1:=keySt_rest e i (by omega) (2*i) (by omega) (by omega)
  have r2:=keySt_rest e i (by omega) (2*i+1) (by omega) (by omega)
  have hei:=he.2 i (by omega)
  rw [keySt,leZ_set _ _ _ (by rw [List.length_set,keySt_length];omega),leZ_set _ _ _ (by rw [keySt_length];omega),getD_set _ _ _ _ _ (by rw [keySt_length];omega),if_neg (by omega),r1,r2,ih,valI_snoc e i (by rw [he.1];omega),Int.pow_succ 256 (2*i),p2,UInt8.toNat_ofNat',UInt8.toNat_ofNat']
  generalize e.getD i 0=x at hei
  have e1:(((x % 256).toNat % 2^8:Nat):Int)=x % 256:=by omega
  have e2:(((x / 2^8 % 256).toNat % 2^8:Nat):Int)=x / 256:=by omega
  have e0:(((0:UInt8).toNat:Nat):Int)=0:=rfl
  rw [e1,e2,e0,Int.sub_zero,Int.sub_zero]
  have e3:x*65536^i=x % 256*65536^i+x / 256*(65536^i*256):=by
   conv=>lhs;rw [← Int.emod_add_mul_ediv x 256,Int.add_mul]
   rw [Int.mul_comm 256,Int.mul_assoc,Int.mul_comm 256]
  omega
def keyL (v:List Int):List UInt8:=keySt (subN (carryN v 3) 2) 16
theorem keyL_length (v:List Int):(keyL v).length=32:=keySt_length _ 16
theorem keyL_leZ {v:List Int} (h:okE v):leZ (keyL v)=valI v % pZ:=by
 obtain ⟨h1,h2⟩:=carry3 h
 rw [keyL,keySt_val (subN_dig h1 2) 16 (by omega),List.take_of_length_le (by rw [(subN_dig h1 2).1];omega),sub2 h1,h2]
end Go.PBYtfpdnpppcoomnaaGreat
namespace Go.Proofs.YtfpdnpppcoomnaaGreat
open Go.RowKit Go.PBYtfpdnpppcoomnaaGreat
theorem i64s_atT {l:List Int} {j:Nat} (h:j<l.length):(i64s l).toArray[j]?=some (vI (l.getD j 0)):=by
 rw [List.getElem?_toArray]
 exact i64s_at h
theorem cSt_lt (v:List Int) {i:Nat} (h:i<15):cSt v (i+1)=((cSt v i).set i ((cSt v i).getD i 0-(cSt v i).getD i 0 / 2^16*2^16)).set (i+1) (((cSt v i).set i ((cSt v i).getD i 0-(cSt v i).getD i 0 / 2^16*2^16)).getD (i+1) 0+(cSt v i).getD i 0 / 2^16):=by
 conv=>lhs;unfold cSt
 exact if_pos h
theorem cSt_ge (v:List Int) {i:Nat} (h:¬ i<15):cSt v (i+1)=((cSt v i).set i ((cSt v i).getD i 0-(cSt v i).getD i 0 / 2^16*2^16)).set 0 (((cSt v i).set i ((cSt v i).getD i 0-(cSt v i).getD i 0 / 2^16*2^16)).getD 0 0+38*((cSt v i).getD i 0 / 2^16)):=by
 conv=>lhs;unfold cSt
 exact if_neg h
theorem carry_calls {S:List Nat} {w0:World} {R:List Res} (v:List Int) (b:Nat) (hv:v.length=16) (hM:∀ j,j<16 → -1152921504606846976≤v.getD j 0∧v.getD j 0≤1152921504606846976) (w:World) (H:St S w0 (.blk b 120 (i64s v)::R) w) :
 Calls Tryz.prog 84 #[vP b 0] w fun e w'=>e=.returned (.tuple #[])∧St S w0 (.blk b 120 (i64s (carryL v))::R) w':=by
 have hcb:=cOut_bound (K:=35184372088832) hM (by omega) (by omega)
 refine enter (n:=52) (R:=fun e L=>e=.returned (.tuple #[])∧L=.blk b 120 (i64s (carryL v))::R) [vP b 0] F84 rfl rfl rfl H ?_ (fun e w' L' h H=>⟨h.1,h.2 ▸ H⟩)
 refine VC_seq<|VC_region<|vl_v (q_move rfl) rfl<|vl_nil<|th_n<|VC_block<|VC_loop (ι:=Nat) (fun i=>i≤16) (fun i=>[(0,vP b 0),(4,vN i)]) (fun i=>.blk b 120 (i64s (cSt v i))::R) (fun i=>16-i) 0 (by omega) (kp [0,4] rfl) (fun w H=>H) ?_
 rintro i hp
 have hl:=(cSt_length v i).trans hv
 refine VC_seq<|VC_region<|vl_v (q_lss_n (q:=16) U3 rfl rfl) rfl<|vl_nil<|th_n<|VC_seq<|VC_cond rfl (fun ht5=>?_) (fun ht5=>?_)
 ·skip
  have ht5:=of_decide_eq_true ht5
  refine VC_skip<|th_n<|VC_seq<|VC_block<|VC_seq<|VC_region<|vl_v (q_move rfl) rfl<|vl_v (q_assign rfl) rfl<|vl_nil<|th_n<|VC_seq<|VC_region ?_
  have ht5:i<16:=ht5
  have hg:=cSt_get hv i (by omega) i ht5
  rw [if_neg (by omega),if_pos rfl] at hg
  have hMi:=hM i ht5
  have hci:=hcb i (by omega)
  refine vl_v (q_move rfl) rfl<|vl_v (q_move rfl) rfl<|vl_v (q_nilck rfl) rfl<|vl_v (q_fldA fo120_0 (by decide) rfl rfl) rfl<|vl_v (q_idxA U118 sz2 rfl rfl (by omega) (r:=_) (by rw [Nat.mul_one,Nat.zero_add])) rfl<|vl_v (q_load 0 U2 rfl rfl rfl (i64s_at (by omega))) rfl<|vl_v (q_shr_i (m:=16) rfl rfl (by decide)) rfl<|vl_v (q_assign rfl) rfl<|vl_nil<|th_n<|VC_seq<|VC_drawV 11 [[],[],[0],[2],[3,1],[4],[],[6],[5,7],[0],[9],[10,1,0,2,3,4,5,6,7,8],[11,8,0,1,2,3,4,5,6,7]] [[],[],[0],[0,2],[0,1,2,3],[0,1,2,3,4],[],[6],[0,1,2,3,4,5,6,7],[0],[0,9],[0,1,2,3,4,5,6,7,8,9,10],[0,1,2,3,4,5,6,7,8,9,10,11]] rfl (by kernel_rfl) ?_
  refine qv_v (q_move rfl)<|qv_v (q_move rfl)<|qv_v (q_nilck rfl)<|qv_v (q_fldA fo120_0 (by decide) rfl rfl)<|qv_v (q_idxA U118 sz2 rfl rfl (by omega) (r:=_) (by rw [Nat.mul_one,Nat.zero_add]))<|qv_v (q_load 0 U2 rfl rfl rfl (i64s_at (by omega)))<|qv_v (q_move rfl)<|qv_v (q_shl_i (m:=16) rfl rfl (by decide) (by omega) (by omega))<|qv_v (q_sub_i rfl rfl (by omega) (by omega))<|qv_v (q_nilck rfl)<|qv_v (q_fldA fo120_0 (by decide) rfl rfl)<|qv_end ?_
  refine VL.keep (kp [0,4,5,2,3,15,22,24] rfl)<|vl_v (q_idxA U118 sz2 rfl rfl (by omega) (r:=_) (by rw [Nat.mul_one,Nat.zero_add])) rfl<|l_stI 0 rfl rfl rfl sz2 (by omega) ?_
  simp only [List.set_cons_zero,List.set_cons_succ]
  refine vl_nil<|qn_n<|th_n<|VC_seq<|VC_region<|vl_v (q_move rfl) rfl<|vl_v (q_lss_n (q:=15) U3 rfl rfl) rfl<|vl_nil<|th_n<|VC_cond rfl (fun ht27=>?_) (fun ht27=>?_)
  ·skip
   have ht27:=of_decide_eq_true ht27
   have ht27:i<15:=ht27
   have hg1:=cSt_get hv i (by omega) (i+1) (by omega)
   rw [if_neg (by omega),if_neg (by omega)] at hg1
   have hM1:=hM (i+1) (by omega)
   have hs1:((cSt v i).set i ((cSt v i).getD i 0-(cSt v i).getD i 0 / 2^16*2^16)).getD (i+1) 0=(cSt v i).getD (i+1) 0:=by rw [getD_set _ _ _ _ _ (by omega),if_neg (by omega)]
   refine VC_drawV 11 [[],[],[1],[0],[3],[4,2],[5],[],[6,7],[0],[9],[10,2,0,1,3,4,5,6,7,8],[11,8,0,1,2,3,4,5,6,7]] [[],[],[1],[0],[0,3],[0,1,2,3,4],[0,1,2,3,4,5],[],[0,1,2,3,4,5,6,7],[0],[0,9],[0,1,2,3,4,5,6,7,8,9,10],[0,1,2,3,4,5,6,7,8,9,10,11]] rfl (by kernel_rfl)<|qv_v (q_move rfl)<|qv_v (q_move rfl)<|qv_v (q_add_n (q:=1) rfl rfl (by omega))<|qv_v (q_nilck rfl)<|qv_v (q_fldA fo120_0 (by decide) rfl rfl)<|qv_v (q_idxA U118 sz2 rfl rfl (by omega) (r:=_) (by rw [Nat.mul_one,Nat.zero_add])) ?_
   refine qv_v (q_load 0 U2 rfl rfl rfl (i64s_at (by simp only [zs,zr,zm,za,zb,zu,zw,zi,zt,zd,zc,zn, *]<;>first | done | omega))) ?_
   refine qv_v (q_move rfl)<|qv_v (q_add_i rfl rfl (by omega) (by omega))<|qv_v (q_nilck rfl)<|qv_v (q_fldA fo120_0 (by decide) rfl rfl)<|qv_end<|VL.keep (kp [0,4,5,2,3,27,30,36,38] rfl)<|vl_v (q_idxA U118 sz2 rfl rfl (by omega) (r:=_) (by rw [Nat.mul_one,Nat.zero_add])) rfl ?_
   refine l_stI 0 rfl rfl rfl sz2 (by simp only [zs,zr,zm,za,zb,zu,zw,zi,zt,zd,zc,zn, *]<;>first | done | omega) ?_
   simp only [List.set_cons_zero,List.set_cons_succ]
   refine vl_nil<|(qn_n (bl_n (th_n ?_)))
   refine VC_region<|vl_v (q_add_n (q:=1) rfl rfl (by omega)) rfl<|vl_v (q_move rfl) rfl<|vl_nil<|th_n ?_
   refine ⟨i+1,by omega,by omega,(kp [0,4] rfl),fun w H=>by first | (rw [cSt_lt v (by omega)];exact H) | (rw [cSt_ge v (by omega)];exact H)⟩
  ·skip
   have ht27:=of_decide_eq_false ht27
   have hi15:i=15:=by omega
   have hg1:=cSt_get hv i (by omega) 0 (by omega)
   rw [if_pos (by omega)] at hg1
   have hl2:((cSt v i).set i ((cSt v i).getD i 0-(cSt v i).getD i 0 / 2^16*2^16)).length=16:=by rw [List.length_set,hl]
   have hs1:((cSt v i).set i ((cSt v i).getD i 0-(cSt v i).getD i 0 / 2^16*2^16)).getD 0 0=(cSt v i).getD 0 0:=by rw [getD_set _ _ _ _ _ (by omega),if_neg (by omega)]
   refine VC_drawV 10 [[],[0],[1],[2],[3],[],[5],[4,6],[0],[8],[9,0,1,2,3,4,5,6,7],[10,7,0,1,2,3,4,5,6]] [[],[0],[0,1],[0,1,2],[0,1,2,3],[],[5],[0,1,2,3,4,5,6],[0],[0,8],[0,1,2,3,4,5,6,7,8,9],[0,1,2,3,4,5,6,7,8,9,10]] rfl (by kernel_rfl)<|qv_v (q_move rfl)<|qv_v (q_nilck rfl)<|qv_v (q_fldA fo120_0 (by decide) rfl rfl)<|qv_v (q_idxA (m:=0) U118 sz2 rfl rfl (by omega) (r:=_) (by rw [Nat.mul_one,Nat.zero_add]))<|qv_v (q_load 0 U2 rfl rfl rfl (i64s_at (by omega)))<|qv_v (q_move rfl)<|qv_v (q_mul_i rfl rfl (by omega) (by omega))<|qv_v (q_add_i rfl rfl (by omega) (by omega))<|qv_v (q_nilck rfl)<|qv_v (q_fldA fo120_0 (by decide) rfl rfl)<|qv_end ?_
   refine VL.keep (kp [0,4,5,2,3,27,47,49] rfl)<|vl_v (q_idxA (m:=0) U118 sz2 rfl rfl (by omega) (r:=_) (by rw [Nat.mul_one,Nat.zero_add])) rfl<|l_stI 0 rfl rfl rfl sz2 (by omega) ?_
   simp only [List.set_cons_zero,List.set_cons_succ]
   refine vl_nil<|(qn_n (bl_n (th_n ?_)))
   refine VC_region<|vl_v (q_add_n (q:=1) rfl rfl (by omega)) rfl<|vl_v (q_move rfl) rfl<|vl_nil<|th_n ?_
   refine ⟨i+1,by omega,by omega,(kp [0,4] rfl),fun w H=>by first | (rw [cSt_lt v (by omega)];exact H) | (rw [cSt_ge v (by omega)];exact H)⟩
 ·skip
  have ht5:=of_decide_eq_false ht5
  obtain rfl:i=16:=by omega
  refine VC_exit<|(th_x (th_x (bl_xs ?_)))
  refine ⟨_,res0 rfl,?_⟩
  exact ⟨rfl,rfl⟩
theorem of_calls (k:List UInt8) (hk:k.length=32) (w:World) :
 Calls Tryz.prog 56 #[.agg (bys k).toArray] w fun e w'=>e=.returned (.agg (i64s (ofL k)).toArray)∧Kept [] w w':=by
 have hol:=(ofL_okE hk).1
 refine enter (n:=32) (R:=fun e L=>e=.returned (.agg (i64s (ofL k)).toArray)) [.agg (bys k).toArray] F56 rfl rfl rfl (St.refl w) ?_ (fun e w' L' h H=>⟨h,H.kept⟩)
 refine VC_seq<|VC_region<|l_boxA rfl rfl<|fun b1=>l_allocA zr120 rfl<|fun b2=>vl_nil<|th_n<|VC_seq<|VC_region<|l_allocA zr120 rfl<|fun b3=>vl_nil<|th_n<|VC_seq ?_
 refine VC_seq<|VC_region<|vl_v (q_move rfl) rfl<|vl_nil<|th_n<|VC_block<|VC_loop (ι:=Nat) (fun i=>i≤16) (fun i=>[(1,vP b1 0),(2,vP b2 0),(3,vP b3 0),(5,vN i)]) (fun i=>[.blk b3 120 (i64s (ofSt k i)),.blk b2 120 (i64s (List.replicate 16 0)),.blk b1 33 (bys k)]) (fun i=>16-i) 0 (by omega) (kp [1,2,3,5] rfl) (fun w H=>H) ?_
 rintro i hp
 have hl:=ofSt_length k i
 refine VC_seq<|VC_region<|vl_v (q_lss_n (q:=16) U3 rfl rfl) rfl<|vl_nil<|th_n<|VC_seq<|VC_cond rfl (fun ht6=>?_) (fun ht6=>?_)
 ·skip
  have ht6:=of_decide_eq_true ht6
  refine VC_skip<|th_n<|VC_seq<|VC_block<|VC_seq<|VC_region<|vl_v (q_move rfl) rfl<|vl_v (q_assign rfl) rfl<|vl_nil<|th_n ?_
  have ht6:i<16:=ht6
  have hb1:=UInt8.toNat_lt (k.getD (2*i) 0)
  have hb2:=UInt8.toNat_lt (k.getD (2*i+1) 0)
  refine VC_drawV 15 [[],[],[1],[2],[3],[4],[],[6],[7],[8],[9],[10],[11],[5,12],[],[14,0,1,2,3,4,5,6,7,8,9,10,11,12,13],[15,13,0,1,2,3,4,5,6,7,8,9,10,11,12]] [[],[],[1],[1,2],[1,2,3],[1,2,3,4],[],[6],[6,7],[6,7,8],[6,7,8,9],[6,7,8,9,10],[6,7,8,9,10,11],[1,2,3,4,5,6,7,8,9,10,11,12],[],[0,1,2,3,4,5,6,7,8,9,10,11,12,13,14],[0,1,2,3,4,5,6,7,8,9,10,11,12,13,14,15]] rfl (by kernel_rfl)<|qv_v (q_move rfl)<|qv_v (q_move rfl)<|qv_v (q_mul_n (p:=2) rfl rfl (by omega))<|qv_v (q_idxA U33 sz5 rfl rfl (by omega) (r:=_) (by rw [Nat.mul_one,Nat.zero_add]))<|qv_v (q_load 2 U5 rfl rfl rfl (bys_at (by omega)))<|qv_v (q_conv_nn U5 U2 rfl (by omega))<|qv_v (q_move rfl)<|qv_v (q_mul_n (p:=2) rfl rfl (by omega))<|qv_v (q_add_n (q:=1) rfl rfl (by omega))<|qv_v (q_idxA U33 sz5 rfl rfl (by omega) (r:=_) (by rw [Nat.mul_one,Nat.zero_add]))<|qv_v (q_load 2 U5 rfl rfl rfl (bys_at (by omega))) ?_
  refine qv_v (q_conv_nn U5 U2 rfl (by omega))<|qv_v (q_as (v:=vI (((k.getD (2*i+1) 0).toNat:Int)*256)) (q_shl_i (m:=8) rfl rfl (by decide) (by omega) (by omega)) rfl)<|qv_v (q_or_b hb1 hb2 rfl rfl)<|qv_v (q_fldA fo120_0 (by decide) rfl rfl)<|qv_end<|VL.keep (kp [1,2,3,5,6,4,8,21,22] rfl)<|vl_v (q_idxA U118 sz2 rfl rfl (by omega) (r:=_) (by rw [Nat.mul_one,Nat.zero_add])) rfl<|l_stI 0 rfl rfl rfl sz2 (by omega) ?_
  simp only [List.set_cons_zero,List.set_cons_succ]
  refine vl_nil<|(qn_n (bl_n (th_n ?_)))
  refine VC_region<|vl_v (q_add_n (q:=1) rfl rfl (by omega)) rfl<|vl_v (q_move rfl) rfl<|vl_nil<|th_n<|⟨i+1,by omega,by omega,(kp [1,2,3,5] rfl),fun w H=>H⟩
 ·skip
  have ht6:=of_decide_eq_false ht6
  obtain rfl:i=16:=by omega
  refine VC_exit<|(th_x (th_x (bl_xs (th_n ?_))))
  refine VC_seq<|VC_region<|vl_v (q_fldA fo120_0 (by decide) rfl rfl) rfl<|vl_v (q_idxA (m:=15) U118 sz2 rfl rfl (by omega) (r:=_) (by rw [Nat.mul_one,Nat.zero_add])) rfl<|vl_v (q_load 0 U2 rfl rfl rfl (i64s_at (by omega))) rfl<|vl_v (q_and_i 15 (by omega) (by decide) rfl rfl) rfl<|vl_v (q_fldA fo120_0 (by decide) rfl rfl) rfl<|vl_v (q_idxA (m:=15) U118 sz2 rfl rfl (by omega) (r:=_) (by rw [Nat.mul_one,Nat.zero_add])) rfl<|l_stI 0 rfl rfl rfl sz2 (by omega) ?_
  simp only [List.set_cons_zero,List.set_cons_succ]
  refine vl_nil<|th_n<|VC_seq ?_
  rw [show (ofSt k 16).set 15 ((ofSt k 16).getD 15 0 % 2^15)=ofL k from rfl]
  refine VC_region<|vl_v (q_loads 0 U120 rfl rfl rfl sz120 (by simp only [zb,zu,zw,zi,za];omega)) rfl ?_
  refine l_storeA 1 rfl rfl rfl sz120 (by simp only [zb,zu,zw,zi,za];omega) (by with_reducible first | exact bys_one _ | exact u32s_one _ | exact u64s_one _ | exact i64s_one _ | exact n64s_one _ | assumption) (by simp only [zs,zr,zm,za,zb,zu,zw,zi,zt,zd,zc,zn, *]<;>first | done | omega) ?_
  simp only [List.set_cons_zero,List.set_cons_succ]
  refine vl_nil<|th_n<|VC_ret ?_
  refine ⟨_,resC1 1 rfl U120 rfl rfl rfl sz120 (by simp only [zb,zu,zw,zi,za];omega),?_⟩
  exact rfl
theorem add_calls (e f:List Int) (he:okE e) (hf:okE f) (w:World) :
 Calls Tryz.prog 58 #[.agg (i64s e).toArray,.agg (i64s f).toArray] w fun e' w'=>e'=.returned (.agg (i64s (addL e f)).toArray)∧Kept [] w w':=by
 have hel:=he.1
 have hfl:=hf.1
 have hal:=(addL_okE he hf).1
 refine enter (n:=24) (R:=fun e' L=>e'=.returned (.agg (i64s (addL e f)).toArray)) [.agg (i64s e).toArray,.agg (i64s f).toArray] F58 rfl rfl rfl (St.refl w) ?_ (fun e w' L' h H=>⟨h,H.kept⟩)
 refine VC_seq<|VC_region<|l_boxA rfl rfl<|fun b2=>l_boxA rfl rfl<|fun b3=>l_allocA zr120 rfl<|fun b4=>vl_nil<|th_n<|VC_seq<|VC_seq<|VC_region<|vl_v (q_fldA fo120_0 (by decide) rfl rfl) rfl<|vl_v (q_loads 1 U118 rfl rfl rfl sz118 (by rw [i64s_length];exact hfl)) rfl ?_
 refine vl_v (q_move rfl) rfl<|vl_nil<|th_n<|VC_block<|VC_loop (ι:=Nat) (fun i=>i≤16) (fun i=>[(2,vP b2 0),(4,vP b4 0),(8,.agg (i64s f).toArray),(9,vN i)]) (fun i=>[.blk b2 120 (i64s (addSt e f i)),.blk b4 120 (i64s (List.replicate 16 0))]) (fun i=>16-i) 0 (by omega) (kp [2,4,8,9] rfl) (fun w H=>St.pick H (ks:=[2,0]) (by decide) rfl) ?_
 rintro i hp
 have hl:=(addSt_length e f i).trans hel
 refine VC_seq<|VC_region<|vl_v (q_lss_n (q:=16) U3 rfl rfl) rfl<|vl_nil<|th_n<|VC_seq<|VC_cond rfl (fun ht10=>?_) (fun ht10=>?_)
 ·skip
  have ht10:=of_decide_eq_true ht10
  refine VC_skip<|th_n<|VC_seq<|VC_block<|VC_seq ?_
  have ht10:i<16:=ht10
  have h1:=he.all i ht10
  have h2:=hf.all i ht10
  have hg:=addSt_get (f:=f) hel i (by omega) i
  rw [if_neg (show ¬ i<i by omega)] at hg
  refine VC_region<|vl_v (q_move rfl) rfl<|vl_v (q_idxV (m:=i) U118 U2 rfl sz2 rfl rfl (by omega) (i64s_atT (by omega))) rfl<|vl_v (q_assign rfl) rfl<|vl_v (q_assign rfl) rfl<|vl_nil<|th_n<|VC_region<|vl_v (q_move rfl) rfl<|vl_v (q_fldA fo120_0 (by decide) rfl rfl) rfl<|vl_v (q_idxA U118 sz2 rfl rfl (by omega) (r:=_) (by rw [Nat.mul_one,Nat.zero_add])) rfl<|vl_v (q_load 0 U2 rfl rfl rfl (i64s_at (by omega))) rfl ?_
  refine vl_v (q_move rfl) rfl<|vl_v (q_add_i rfl rfl (by omega) (by omega)) rfl<|vl_v (q_fldA fo120_0 (by decide) rfl rfl) rfl<|vl_v (q_idxA U118 sz2 rfl rfl (by omega) (r:=_) (by rw [Nat.mul_one,Nat.zero_add])) rfl<|l_stI 0 rfl rfl rfl sz2 (by omega) ?_
  simp only [List.set_cons_zero,List.set_cons_succ]
  refine vl_nil<|bl_n<|th_n<|VC_region<|vl_v (q_add_n (q:=1) rfl rfl (by omega)) rfl<|vl_v (q_move rfl) rfl<|vl_nil<|th_n<|⟨i+1,by omega,by omega,(kp [2,4,8,9] rfl),fun w H=>H⟩
 ·skip
  have ht10:=of_decide_eq_false ht10
  obtain rfl:i=16:=by omega
  refine VC_exit<|(th_x (th_x (bl_xs (th_n ?_))))
  refine VC_seq<|VC_region<|l_callE F84 rfl rfl rfl (fun w1 H1=>carry_calls (addSt e f 16) b2 hl (fun j hj=>by have h1:=he.all j hj;have h2:=hf.all j hj;have hg:=addSt_get (f:=f) hel 16 (by omega) j;rw [if_pos hj] at hg;omega) w1 H1) rfl ?_
  rw [show carryL (addSt e f 16)=addL e f from rfl]
  refine vl_nil<|th_n<|VC_seq<|VC_region<|vl_v (q_loads 0 U120 rfl rfl rfl sz120 (by simp only [zb,zu,zw,zi,za];omega)) rfl ?_
  refine l_storeA 1 rfl rfl rfl sz120 (by simp only [zb,zu,zw,zi,za];omega) (by with_reducible first | exact bys_one _ | exact u32s_one _ | exact u64s_one _ | exact i64s_one _ | exact n64s_one _ | assumption) (by simp only [zs,zr,zm,za,zb,zu,zw,zi,zt,zd,zc,zn, *]<;>first | done | omega) ?_
  simp only [List.set_cons_zero,List.set_cons_succ]
  refine vl_nil<|th_n<|VC_ret ?_
  refine ⟨_,resC1 1 rfl U120 rfl rfl rfl sz120 (by simp only [zb,zu,zw,zi,za];omega),?_⟩
  exact rfl
theorem sub_calls (e f:List Int) (he:okE e) (hf:okE f) (w:World) :
 Calls Tryz.prog 59 #[.agg (i64s e).toArray,.agg (i64s f).toArray] w fun e' w'=>e'=.returned (.agg (i64s (subL e f)).toArray)∧Kept [] w w':=by
 have hel:=he.1
 have hfl:=hf.1
 have hal:=(subL_okE he hf).1
 refine enter (n:=24) (R:=fun e' L=>e'=.returned (.agg (i64s (subL e f)).toArray)) [.agg (i64s e).toArray,.agg (i64s f).toArray] F59 rfl rfl rfl (St.refl w) ?_ (fun e w' L' h H=>⟨h,H.kept⟩)
 refine VC_seq<|VC_region<|l_boxA rfl rfl<|fun b2=>l_boxA rfl rfl<|fun b3=>l_allocA zr120 rfl<|fun b4=>vl_nil<|th_n<|VC_seq<|VC_seq<|VC_region<|vl_v (q_fldA fo120_0 (by decide) rfl rfl) rfl<|vl_v (q_loads 1 U118 rfl rfl rfl sz118 (by rw [i64s_length];exact hfl)) rfl ?_
 refine vl_v (q_move rfl) rfl<|vl_nil<|th_n<|VC_block<|VC_loop (ι:=Nat) (fun i=>i≤16) (fun i=>[(2,vP b2 0),(4,vP b4 0),(8,.agg (i64s f).toArray),(9,vN i)]) (fun i=>[.blk b2 120 (i64s (subSt e f i)),.blk b4 120 (i64s (List.replicate 16 0))]) (fun i=>16-i) 0 (by omega) (kp [2,4,8,9] rfl) (fun w H=>St.pick H (ks:=[2,0]) (by decide) rfl) ?_
 rintro i hp
 have hl:=(subSt_length e f i).trans hel
 refine VC_seq<|VC_region<|vl_v (q_lss_n (q:=16) U3 rfl rfl) rfl<|vl_nil<|th_n<|VC_seq<|VC_cond rfl (fun ht10=>?_) (fun ht10=>?_)
 ·skip
  have ht10:=of_decide_eq_true ht10
  refine VC_skip<|th_n<|VC_seq<|VC_block<|VC_seq ?_
  have ht10:i<16:=ht10
  have h1:=he.all i ht10
  have h2:=hf.all i ht10
  have hg:=subSt_get (f:=f) hel i (by omega) i
  rw [if_neg (show ¬ i<i by omega)] at hg
  refine VC_region<|vl_v (q_move rfl) rfl<|vl_v (q_idxV (m:=i) U118 U2 rfl sz2 rfl rfl (by omega) (i64s_atT (by omega))) rfl<|vl_v (q_assign rfl) rfl<|vl_v (q_assign rfl) rfl<|vl_nil<|th_n<|VC_region<|vl_v (q_move rfl) rfl<|vl_v (q_fldA fo120_0 (by decide) rfl rfl) rfl<|vl_v (q_idxA U118 sz2 rfl rfl (by omega) (r:=_) (by rw [Nat.mul_one,Nat.zero_add])) rfl<|vl_v (q_load 0 U2 rfl rfl rfl (i64s_at (by omega))) rfl ?_
  refine vl_v (q_move rfl) rfl<|vl_v (q_sub_i rfl rfl (by omega) (by omega)) rfl<|vl_v (q_fldA fo120_0 (by decide) rfl rfl) rfl<|vl_v (q_idxA U118 sz2 rfl rfl (by omega) (r:=_) (by rw [Nat.mul_one,Nat.zero_add])) rfl<|l_stI 0 rfl rfl rfl sz2 (by omega) ?_
  simp only [List.set_cons_zero,List.set_cons_succ]
  refine vl_nil<|bl_n<|th_n<|VC_region<|vl_v (q_add_n (q:=1) rfl rfl (by omega)) rfl<|vl_v (q_move rfl) rfl<|vl_nil<|th_n<|⟨i+1,by omega,by omega,(kp [2,4,8,9] rfl),fun w H=>H⟩
 ·skip
  have ht10:=of_decide_eq_false ht10
  obtain rfl:i=16:=by omega
  refine VC_exit<|(th_x (th_x (bl_xs (th_n ?_))))
  refine VC_seq<|VC_region<|l_callE F84 rfl rfl rfl (fun w1 H1=>carry_calls (subSt e f 16) b2 hl (fun j hj=>by have h1:=he.all j hj;have h2:=hf.all j hj;have hg:=subSt_get (f:=f) hel 16 (by omega) j;rw [if_pos hj] at hg;omega) w1 H1) rfl ?_
  rw [show carryL (subSt e f 16)=subL e f from rfl]
  refine vl_nil<|th_n<|VC_seq<|VC_region<|vl_v (q_loads 0 U120 rfl rfl rfl sz120 (by simp only [zb,zu,zw,zi,za];omega)) rfl ?_
  refine l_storeA 1 rfl rfl rfl sz120 (by simp only [zb,zu,zw,zi,za];omega) (by with_reducible first | exact bys_one _ | exact u32s_one _ | exact u64s_one _ | exact i64s_one _ | exact n64s_one _ | assumption) (by simp only [zs,zr,zm,za,zb,zu,zw,zi,zt,zd,zc,zn, *]<;>first | done | omega) ?_
  simp only [List.set_cons_zero,List.set_cons_succ]
  refine vl_nil<|th_n<|VC_ret ?_
  refine ⟨_,resC1 1 rfl U120 rfl rfl rfl sz120 (by simp only [zb,zu,zw,zi,za];omega),?_⟩
  exact rfl
theorem mul_calls (e f:List Int) (he:okE e) (hf:okE f) (w:World) :
 Calls Tryz.prog 60 #[.agg (i64s e).toArray,.agg (i64s f).toArray] w fun e' w'=>e'=.returned (.agg (i64s (mulL e f)).toArray)∧Kept [] w w':=by
 have hel:=he.1
 have hfl:=hf.1
 have hal:=(mulL_okE he hf).1
 have hml:=mulOut_length e f
 refine enter (n:=55) (R:=fun e' L=>e'=.returned (.agg (i64s (mulL e f)).toArray)) [.agg (i64s e).toArray,.agg (i64s f).toArray] F60 rfl rfl rfl (St.refl w) ?_ (fun e w' L' h H=>⟨h,H.kept⟩)
 refine VC_seq<|VC_region<|l_boxA rfl rfl<|fun b2=>l_boxA rfl rfl<|fun b3=>l_allocA zr120 rfl<|fun b4=>vl_nil<|th_n<|VC_seq<|VC_region<|l_allocA zr164 rfl<|fun b5=>vl_nil<|th_n ?_
 refine VC_seq<|VC_seq<|VC_region<|vl_v (q_fldA fo120_0 (by decide) rfl rfl) rfl<|vl_v (q_loads 3 U118 rfl rfl rfl sz118 (by rw [i64s_length];exact hel)) rfl<|vl_v (q_move rfl) rfl<|vl_nil<|th_n<|VC_block<|VC_loop (ι:=Nat) (fun i=>i≤16) (fun i=>[(3,vP b3 0),(4,vP b4 0),(5,vP b5 0),(13,.agg (i64s e).toArray),(14,vN i)]) (fun i=>[.blk b5 164 (i64s (mulOut e f i)),.blk b4 120 (i64s (List.replicate 16 0)),.blk b3 120 (i64s f)]) (fun i=>16-i) 0 (by omega) (kp [3,4,5,13,14] rfl) (fun w H=>St.pick H (ks:=[0,1,2]) (by decide) rfl) ?_
 rintro i hp
 refine VC_seq<|VC_region<|vl_v (q_lss_n (q:=16) U3 rfl rfl) rfl<|vl_nil<|th_n<|VC_seq<|VC_cond rfl (fun ht15=>?_) (fun ht15=>?_)
 ·skip
  have ht15:=of_decide_eq_true ht15
  refine VC_skip<|th_n<|VC_seq<|VC_block<|VC_seq<|VC_region<|vl_v (q_move rfl) rfl<|vl_v (q_idxV (m:=i) U118 U2 rfl sz2 rfl rfl (by omega) (i64s_atT (by omega))) rfl<|vl_v (q_assign rfl) rfl<|vl_v (q_assign rfl) rfl<|vl_nil<|th_n ?_
  refine VC_seq<|VC_region<|vl_v (q_fldA fo120_0 (by decide) rfl rfl) rfl<|vl_v (q_loads 2 U118 rfl rfl rfl sz118 (by rw [i64s_length];exact hfl)) rfl<|vl_v (q_move rfl) rfl<|vl_nil<|th_n<|VC_block<|VC_loop (ι:=Nat) (fun k=>k≤16) (fun k=>[(3,vP b3 0),(4,vP b4 0),(5,vP b5 0),(6,vN i),(7,vI (e.getD i 0)),(13,.agg (i64s e).toArray),(14,vN i),(19,.agg (i64s f).toArray),(20,vN k)]) (fun k=>[.blk b5 164 (i64s (mulIn e f i (mulOut e f i) k)),.blk b4 120 (i64s (List.replicate 16 0)),.blk b3 120 (i64s f)]) (fun k=>16-k) 0 (by omega) (kp [3,4,5,6,7,13,14,19,20] rfl) (fun w H=>H) ?_
  rintro k hp
  have hil:=(mulIn_length e f i (mulOut e f i) k).trans (hml i)
  refine VC_seq<|VC_region<|vl_v (q_lss_n (q:=16) U3 rfl rfl) rfl<|vl_nil<|th_n<|VC_seq<|VC_cond rfl (fun ht21=>?_) (fun ht21=>?_)
  ·skip
   have ht21:=of_decide_eq_true ht21
   refine VC_skip<|th_n<|VC_seq<|VC_block<|VC_seq ?_
   have ht15:i<16:=ht15
   have ht21:k<16:=ht21
   have hmb:=(mulIn_bound (e:=e) (f:=f) (i:=i) he.all hf.all (by omega) ht15 (hml i) (mulOut_bound he.all hf.all (by omega) i (by omega)) k (by omega) (i+k) (by omega)).1
   have hpb : -17179869184≤e.getD i 0*f.getD k 0∧e.getD i 0*f.getD k 0≤17179869184:=by have h2:(e.getD i 0*f.getD k 0).natAbs≤131072*131072:=by {rw [Int.natAbs_mul];have h3:=he.all i ht15;have h4:=hf.all k ht21;exact Nat.mul_le_mul (by omega) (by omega)};omega
   refine VC_region<|vl_v (q_move rfl) rfl<|vl_v (q_idxV (m:=k) U118 U2 rfl sz2 rfl rfl (by omega) (i64s_atT (by omega))) rfl<|vl_v (q_assign rfl) rfl<|vl_v (q_assign rfl) rfl<|vl_nil<|th_n<|VC_region<|vl_v (q_move rfl) rfl<|vl_v (q_move rfl) rfl<|vl_v (q_add_n rfl rfl (by omega)) rfl<|vl_v (q_idxA U164 sz2 rfl rfl (by omega) (r:=_) (by rw [Nat.mul_one,Nat.zero_add])) rfl ?_
   refine vl_v (q_load 0 U2 rfl rfl rfl (i64s_at (by omega))) rfl<|vl_v (q_move rfl) rfl<|vl_v (q_move rfl) rfl<|vl_v (q_mul_i rfl rfl (by omega) (by omega)) rfl<|vl_v (q_add_i rfl rfl (by omega) (by omega)) rfl<|vl_v (q_idxA U164 sz2 rfl rfl (by omega) (r:=_) (by rw [Nat.mul_one,Nat.zero_add])) rfl<|l_stI 0 rfl rfl rfl sz2 (by omega) ?_
   simp only [List.set_cons_zero,List.set_cons_succ]
   refine vl_nil<|bl_n<|th_n<|VC_region<|vl_v (q_add_n (q:=1) rfl rfl (by omega)) rfl<|vl_v (q_move rfl) rfl<|vl_nil<|th_n<|⟨k+1,by omega,by omega,(kp [3,4,5,6,7,13,14,19,20] rfl),fun w H=>H⟩
  ·skip
   have ht21:=of_decide_eq_false ht21
   obtain rfl:k=16:=by omega
   refine VC_exit<|(th_x (th_x (bl_xs (bl_n (th_n ?_)))))
   refine VC_region<|vl_v (q_add_n (q:=1) rfl rfl (by omega)) rfl<|vl_v (q_move rfl) rfl<|vl_nil<|th_n<|⟨i+1,by omega,by omega,(kp [3,4,5,13,14] rfl),fun w H=>H⟩
 ·skip
  have ht15:=of_decide_eq_false ht15
  obtain rfl:i=16:=by omega
  have hml16:=hml 16
  have hmb:=mulOut_bound he.all hf.all (by omega) 16 (by omega)
  refine VC_exit<|(th_x (th_x (bl_xs (th_n ?_))))
  refine VC_seq<|VC_region<|l_allocA zr120 rfl<|fun b10=>vl_nil<|th_n<|VC_seq<|VC_seq<|VC_region<|vl_v (q_move rfl) rfl<|vl_nil<|th_n<|VC_block ?_
  refine VC_loop (ι:=Nat) (fun i=>i≤16) (fun i=>[(4,vP b4 0),(5,vP b5 0),(10,vP b10 0),(36,vN i)]) (fun i=>[.blk b10 120 (i64s (foldSt (mulOut e f 16) i)),.blk b5 164 (i64s (mulOut e f 16)),.blk b4 120 (i64s (List.replicate 16 0))]) (fun i=>16-i) 0 (by omega) (kp [4,5,10,36] rfl) (fun w H=>St.pick H (ks:=[0,1,2]) (by decide) rfl) ?_
  rintro i hp
  have hfo:=foldSt_length (mulOut e f 16) i
  refine VC_seq<|VC_region<|vl_v (q_lss_n (q:=16) U3 rfl rfl) rfl<|vl_nil<|th_n<|VC_seq<|VC_cond rfl (fun ht37=>?_) (fun ht37=>?_)
  ·skip
   have ht37:=of_decide_eq_true ht37
   refine VC_skip<|th_n<|VC_seq<|VC_block<|VC_seq<|VC_region<|vl_v (q_move rfl) rfl<|vl_v (q_assign rfl) rfl<|vl_nil<|th_n ?_
   have ht37:i<16:=ht37
   have hm1:=hmb i (by omega)
   have hm2:=hmb (i+16) (by omega)
   refine VC_drawV 11 [[],[],[1],[2],[],[4],[5],[6],[7],[3,8],[],[10,0,1,2,3,4,5,6,7,8,9],[11,9,0,1,2,3,4,5,6,7,8]] [[],[],[1],[1,2],[],[4],[4,5],[4,5,6],[4,5,6,7],[1,2,3,4,5,6,7,8],[],[0,1,2,3,4,5,6,7,8,9,10],[0,1,2,3,4,5,6,7,8,9,10,11]] rfl (by kernel_rfl)<|qv_v (q_move rfl)<|qv_v (q_move rfl)<|qv_v (q_idxA U164 sz2 rfl rfl (by omega) (r:=_) (by rw [Nat.mul_one,Nat.zero_add]))<|qv_v (q_load 1 U2 rfl rfl rfl (i64s_at (by omega)))<|qv_v (q_move rfl)<|qv_v (q_add_n (q:=16) rfl rfl (by omega))<|qv_v (q_idxA U164 sz2 rfl rfl (by omega) (r:=_) (by rw [Nat.mul_one,Nat.zero_add]))<|qv_v (q_load 1 U2 rfl rfl rfl (i64s_at (by omega)))<|qv_v (q_mul_i rfl rfl (by omega) (by omega))<|qv_v (q_add_i rfl rfl (by omega) (by omega))<|qv_v (q_fldA fo120_0 (by decide) rfl rfl) ?_
   refine qv_end<|VL.keep (kp [4,5,10,36,37,11,39,48,49] rfl)<|vl_v (q_idxA U118 sz2 rfl rfl (by omega) (r:=_) (by rw [Nat.mul_one,Nat.zero_add])) rfl<|l_stI 0 rfl rfl rfl sz2 (by omega) ?_
   simp only [List.set_cons_zero,List.set_cons_succ]
   refine vl_nil<|(qn_n (bl_n (th_n ?_)))
   refine VC_region<|vl_v (q_add_n (q:=1) rfl rfl (by omega)) rfl<|vl_v (q_move rfl) rfl<|vl_nil<|th_n<|⟨i+1,by omega,by omega,(kp [4,5,10,36] rfl),fun w H=>H⟩
  ·skip
   have ht37:=of_decide_eq_false ht37
   obtain rfl:i=16:=by omega
   refine VC_exit<|(th_x (th_x (bl_xs (th_n ?_))))
   refine VC_seq<|VC_region<|l_callE F84 rfl rfl rfl (fun w1 H1=>carry_calls (foldSt (mulOut e f 16) 16) b10 hfo (fold_bound he hf) w1 H1) rfl<|vl_nil<|th_n<|VC_seq<|VC_region<|l_callE F84 rfl rfl rfl (fun w1 H1=>carry_calls (carryL (foldSt (mulOut e f 16) 16)) b10 ((carryL_length _).trans hfo) (fold_bound2 he hf) w1 H1) rfl ?_
   rw [show carryL (carryL (foldSt (mulOut e f 16) 16))=mulL e f from rfl]
   refine vl_nil<|th_n<|VC_seq<|VC_region<|vl_v (q_loads 0 U120 rfl rfl rfl sz120 (by simp only [zb,zu,zw,zi,za];omega)) rfl ?_
   refine l_storeA 2 rfl rfl rfl sz120 (by simp only [zb,zu,zw,zi,za];omega) (by with_reducible first | exact bys_one _ | exact u32s_one _ | exact u64s_one _ | exact i64s_one _ | exact n64s_one _ | assumption) (by simp only [zs,zr,zm,za,zb,zu,zw,zi,zt,zd,zc,zn, *]<;>first | done | omega) ?_
   simp only [List.set_cons_zero,List.set_cons_succ]
   refine vl_nil<|th_n<|VC_ret ?_
   refine ⟨_,resC1 2 rfl U120 rfl rfl rfl sz120 (by simp only [zb,zu,zw,zi,za];omega),?_⟩
   exact rfl
theorem less_calls (e:List Int) (he:okE e) (w:World) :
 Calls Tryz.prog 85 #[.agg (i64s e).toArray] w fun e' w'=>e'=.returned (.tuple #[.agg (i64s (lessSt e 16).1).toArray,.bool (decide ((lessSt e 16).2=1))])∧Kept [] w w':=by
 have hel:=he.1
 have hll:=lessSt_length e 16
 refine enter (n:=37) (R:=fun e' L=>e'=.returned (.tuple #[.agg (i64s (lessSt e 16).1).toArray,.bool (decide ((lessSt e 16).2=1))])) [.agg (i64s e).toArray] F85 rfl rfl rfl (St.refl w) ?_ (fun e w' L' h H=>⟨h,H.kept⟩)
 refine VC_seq<|VC_region<|l_boxA rfl rfl<|fun b1=>l_allocA zr120 rfl<|fun b2=>vl_v (q_assign rfl) rfl<|vl_nil<|th_n<|VC_seq<|VC_region<|l_allocA zr120 rfl<|fun b4=>vl_nil<|th_n ?_
 refine VC_seq<|VC_region<|vl_v (q_assign rfl) rfl<|vl_nil<|th_n<|VC_seq<|VC_seq<|VC_region<|vl_v (q_fldA fo120_0 (by decide) rfl rfl) rfl<|vl_v (q_loads 2 U118 rfl rfl rfl sz118 (by rw [i64s_length];exact hel)) rfl<|vl_v (q_move rfl) rfl<|vl_nil ?_
 refine th_n<|VC_block<|VC_loop (ι:=Nat) (fun i=>i≤16) (fun i=>[(1,vP b1 0),(2,vP b2 0),(3,.bool false),(4,vP b4 0),(5,vI (lessSt e i).2),(10,.agg (i64s e).toArray),(11,vN i)]) (fun i=>[.blk b4 120 (i64s (lessSt e i).1),.blk b2 120 (i64s (List.replicate 16 0)),.blk b1 120 (i64s e)]) (fun i=>16-i) 0 (by omega) (kp [1,2,3,4,5,10,11] rfl) (fun w H=>H) ?_
 rintro i hp
 have hl:=lessSt_length e i
 refine VC_seq<|VC_region<|vl_v (q_lss_n (q:=16) U3 rfl rfl) rfl<|vl_nil<|th_n<|VC_seq<|VC_cond rfl (fun ht12=>?_) (fun ht12=>?_)
 ·skip
  have ht12:=of_decide_eq_true ht12
  refine VC_skip<|th_n<|VC_seq<|VC_block<|VC_seq ?_
  have ht12:i<16:=ht12
  have h1:=he.all i ht12
  have hpd:0≤pD i∧pD i≤65535:=by unfold pD;split<;>(try split)<;>omega
  have hod:=lessSt_owed e i
  refine VC_region<|vl_v (q_move rfl) rfl<|vl_v (q_idxV (m:=i) U118 U2 rfl sz2 rfl rfl (by omega) (i64s_atT (by omega))) rfl<|vl_v (q_assign rfl) rfl<|vl_v (q_assign rfl) rfl<|vl_nil<|th_n<|VC_seq<|VC_region<|vl_v (q_assign rfl) rfl<|vl_nil<|th_n ?_
  refine VC_seq<|VC_seq<|VC_region<|vl_v (q_move rfl) rfl<|vl_nil<|th_n<|VC_block<|VC_seq<|VC_region<|vl_v (q_eql_n (q:=0) U3 rfl rfl) rfl<|vl_v (q_assign rfl) rfl<|vl_nil ?_
  refine th_n<|VC_cond rfl (fun ht16=>?_) (fun ht16=>?_)
  ·skip
   have ht16:i=0:=of_decide_eq_true ht16
   refine VC_region<|vl_v (q_as (v:=vI (pD i)) (q_assign rfl) (by rw [ht16];rfl)) rfl<|vl_nil<|bl_n<|th_n<|VC_seq<|VC_region<|vl_v (q_move rfl) rfl<|vl_v (q_as (v:=vI (pD i)) (q_move rfl) (by rfl)) rfl<|vl_v (q_move rfl) rfl<|vl_v (q_add_i rfl rfl (by omega) (by omega)) rfl<|vl_v (q_sub_i rfl rfl (by omega) (by omega)) rfl<|vl_v (q_assign rfl) rfl ?_
   refine vl_nil<|th_n<|VC_seq<|VC_region<|vl_v (q_move rfl) rfl<|vl_v (q_shr_i (m:=16) rfl rfl (by decide)) rfl<|vl_v (q_and_i 1 (by decide) (by decide) rfl rfl) rfl<|vl_v (q_assign rfl) rfl<|vl_nil<|th_n<|VC_region<|vl_v (q_move rfl) rfl ?_
   refine vl_v (q_move rfl) rfl<|vl_v (q_and_i 16 (by decide) (by decide) rfl rfl) rfl<|vl_v (q_fldA fo120_0 (by decide) rfl rfl) rfl<|vl_v (q_idxA U118 sz2 rfl rfl (by omega) (r:=_) (by rw [Nat.mul_one,Nat.zero_add])) rfl<|l_stI 0 rfl rfl rfl sz2 (by omega) ?_
   simp only [List.set_cons_zero,List.set_cons_succ]
   refine vl_nil<|bl_n<|th_n<|VC_region<|vl_v (q_add_n (q:=1) rfl rfl (by omega)) rfl<|vl_v (q_move rfl) rfl<|vl_nil<|th_n<|⟨i+1,by omega,by omega,(kp [1,2,3,4,5,10,11] rfl),fun w H=>H⟩
  ·skip
   have ht16:¬ i=0:=of_decide_eq_false ht16
   refine VC_seq<|VC_region<|vl_v (q_eql_n (q:=15) U3 rfl rfl) rfl<|vl_v (q_assign rfl) rfl<|vl_nil<|th_n<|VC_cond rfl (fun ht18=>?_) (fun ht18=>?_)
   ·skip
    have ht18:i=15:=of_decide_eq_true ht18
    refine VC_region<|vl_v (q_as (v:=vI (pD i)) (q_assign rfl) (by rw [ht18];rfl)) rfl<|vl_nil<|bl_n<|th_n<|VC_seq<|VC_region<|vl_v (q_move rfl) rfl<|vl_v (q_as (v:=vI (pD i)) (q_move rfl) (by rfl)) rfl<|vl_v (q_move rfl) rfl<|vl_v (q_add_i rfl rfl (by omega) (by omega)) rfl<|vl_v (q_sub_i rfl rfl (by omega) (by omega)) rfl<|vl_v (q_assign rfl) rfl ?_
    refine vl_nil<|th_n<|VC_seq<|VC_region<|vl_v (q_move rfl) rfl<|vl_v (q_shr_i (m:=16) rfl rfl (by decide)) rfl<|vl_v (q_and_i 1 (by decide) (by decide) rfl rfl) rfl<|vl_v (q_assign rfl) rfl<|vl_nil<|th_n<|VC_region<|vl_v (q_move rfl) rfl ?_
    refine vl_v (q_move rfl) rfl<|vl_v (q_and_i 16 (by decide) (by decide) rfl rfl) rfl<|vl_v (q_fldA fo120_0 (by decide) rfl rfl) rfl<|vl_v (q_idxA U118 sz2 rfl rfl (by omega) (r:=_) (by rw [Nat.mul_one,Nat.zero_add])) rfl<|l_stI 0 rfl rfl rfl sz2 (by omega) ?_
    simp only [List.set_cons_zero,List.set_cons_succ]
    refine vl_nil<|bl_n<|th_n<|VC_region<|vl_v (q_add_n (q:=1) rfl rfl (by omega)) rfl<|vl_v (q_move rfl) rfl<|vl_nil<|th_n<|⟨i+1,by omega,by omega,(kp [1,2,3,4,5,10,11] rfl),fun w H=>H⟩
   ·skip
    have ht18:¬ i=15:=of_decide_eq_false ht18
    refine VC_skip<|bl_n<|th_n<|VC_seq<|VC_region<|vl_v (q_move rfl) rfl<|vl_v (q_as (v:=vI (pD i)) (q_move rfl) (by unfold pD;rw [if_neg ht16,if_neg ht18])) rfl<|vl_v (q_move rfl) rfl<|vl_v (q_add_i rfl rfl (by omega) (by omega)) rfl<|vl_v (q_sub_i rfl rfl (by omega) (by omega)) rfl<|vl_v (q_assign rfl) rfl<|vl_nil<|th_n ?_
    refine VC_seq<|VC_region<|vl_v (q_move rfl) rfl<|vl_v (q_shr_i (m:=16) rfl rfl (by decide)) rfl<|vl_v (q_and_i 1 (by decide) (by decide) rfl rfl) rfl<|vl_v (q_assign rfl) rfl<|vl_nil<|th_n<|VC_region<|vl_v (q_move rfl) rfl<|vl_v (q_move rfl) rfl<|vl_v (q_and_i 16 (by decide) (by decide) rfl rfl) rfl ?_
    refine vl_v (q_fldA fo120_0 (by decide) rfl rfl) rfl<|vl_v (q_idxA U118 sz2 rfl rfl (by omega) (r:=_) (by rw [Nat.mul_one,Nat.zero_add])) rfl<|l_stI 0 rfl rfl rfl sz2 (by omega) ?_
    simp only [List.set_cons_zero,List.set_cons_succ]
    refine vl_nil<|bl_n<|th_n<|VC_region<|vl_v (q_add_n (q:=1) rfl rfl (by omega)) rfl<|vl_v (q_move rfl) rfl<|vl_nil<|th_n<|⟨i+1,by omega,by omega,(kp [1,2,3,4,5,10,11] rfl),fun w H=>H⟩
 ·skip
  have ht12:=of_decide_eq_false ht12
  obtain rfl:i=16:=by omega
  refine VC_exit<|(th_x (th_x (bl_xs (th_n ?_))))
  refine VC_seq<|VC_region<|vl_v (q_loads 0 U120 rfl rfl rfl sz120 (by simp only [zb,zu,zw,zi,za];omega)) rfl<|vl_v (q_move rfl) rfl<|vl_v (q_eql_k U2 rfl rfl) rfl ?_
  refine l_storeA 1 rfl rfl rfl sz120 (by simp only [zb,zu,zw,zi,za];omega) (by with_reducible first | exact bys_one _ | exact u32s_one _ | exact u64s_one _ | exact i64s_one _ | exact n64s_one _ | assumption) (by simp only [zs,zr,zm,za,zb,zu,zw,zi,zt,zd,zc,zn, *]<;>first | done | omega) ?_
  simp only [List.set_cons_zero,List.set_cons_succ]
  refine vl_v (q_assign rfl) rfl<|vl_nil<|th_n<|VC_ret ?_
  refine ⟨_,resC2 1 rfl U120 rfl rfl rfl sz120 (by simp only [zb,zu,zw,zi,za];omega) rfl,?_⟩
  exact rfl
theorem dig_okE {e:List Int} (h:dig e):okE e:=⟨h.1,by have:=h.2 0 (by omega);omega,fun j _ hj=>h.2 j hj⟩
theorem key_calls (v:List Int) (hv:okE v) (w:World) :
 Calls Tryz.prog 62 #[.agg (i64s v).toArray] w fun e' w'=>e'=.returned (.agg (bys (keyL v)).toArray)∧Kept [] w w':=by
 have hvl:=hv.1
 have hkl:=keyL_length v
 have hd:=(carry3 hv).1
 have hs2:=(subN_dig hd 2).1
 refine enter (n:=43) (R:=fun e' L=>e'=.returned (.agg (bys (keyL v)).toArray)) [.agg (i64s v).toArray] F62 rfl rfl rfl (St.refl w) ?_ (fun e w' L' h H=>⟨h,H.kept⟩)
 refine VC_seq<|VC_region<|l_boxA rfl rfl<|fun b1=>l_allocA zr33 rfl<|fun b2=>vl_nil<|th_n<|VC_seq<|VC_seq<|VC_region<|vl_v (q_move rfl) rfl<|vl_nil<|th_n ?_
 refine VC_block<|VC_loop (ι:=Nat) (fun i=>i≤3) (fun i=>[(1,vP b1 0),(2,vP b2 0),(8,vN i)]) (fun i=>[.blk b1 120 (i64s (carryN v i)),.blk b2 33 (bys (List.replicate 32 0))]) (fun i=>3-i) 0 (by omega) (kp [1,2,8] rfl) (fun w H=>St.pick H (ks:=[1,0]) (by decide) rfl) ?_
 rintro i hp
 refine VC_seq<|VC_region<|vl_v (q_lss_n (q:=3) U3 rfl rfl) rfl<|vl_nil<|th_n<|VC_seq<|VC_cond rfl (fun ht9=>?_) (fun ht9=>?_)
 ·skip
  have ht9:=of_decide_eq_true ht9
  refine VC_skip<|th_n<|VC_seq<|VC_block<|VC_region<|l_callE F84 rfl rfl rfl (fun w1 H1=>carry_calls (carryN v i) b1 (carryN_okE hv i).1 (fun j hj=>by have:=(carryN_okE hv i).all j hj;omega) w1 H1) rfl<|vl_nil<|bl_n<|th_n<|VC_region<|vl_v (q_add_n (q:=1) rfl rfl (by omega)) rfl<|vl_v (q_move rfl) rfl<|vl_nil ?_
  refine th_n<|⟨i+1,by omega,by omega,(kp [1,2,8] rfl),fun w H=>H⟩
 ·skip
  have ht9:=of_decide_eq_false ht9
  obtain rfl:i=3:=by omega
  obtain ⟨a,ha⟩:∃ a,a=carryN v 3:=⟨_,rfl⟩
  rw [← ha] at hd hs2
  rw [← ha]
  refine VC_exit<|(th_x (th_x (bl_xs (th_n ?_))))
  refine VC_seq<|VC_seq<|VC_region<|vl_v (q_move rfl) rfl<|vl_nil<|th_n<|VC_block<|VC_loop (ι:=Nat) (fun i=>i≤2) (fun i=>[(1,vP b1 0),(2,vP b2 0),(12,vN i)]) (fun i=>[.blk b1 120 (i64s (subN a i)),.blk b2 33 (bys (List.replicate 32 0))]) (fun i=>2-i) 0 (by omega) (kp [1,2,12] rfl) (fun w H=>H) ?_
  rintro i hp
  have hsd:=subN_dig hd i
  have hsl:=hsd.1
  have hll:=lessSt_length (subN a i) 16
  refine VC_seq<|VC_region<|vl_v (q_lss_n (q:=2) U3 rfl rfl) rfl<|vl_nil<|th_n<|VC_seq<|VC_cond rfl (fun ht13=>?_) (fun ht13=>?_)
  ·skip
   have ht13:=of_decide_eq_true ht13
   refine VC_skip<|th_n<|VC_seq<|VC_block<|VC_seq<|VC_region<|vl_v (q_loads 0 U120 rfl rfl rfl sz120 (by simp only [zb,zu,zw,zi,za];omega)) rfl<|vl_v (q_callV F85 rfl rfl rfl (fun w1 H1=>less_calls (subN a i) (dig_okE hsd) w1)) rfl<|vl_v (q_move rfl) rfl<|vl_v (q_ext rfl rfl) rfl<|vl_v (q_ext rfl rfl) rfl<|l_allocA zr120 rfl ?_
   intro b3
   refine l_storeA 0 rfl rfl rfl sz120 (by simp only [zb,zu,zw,zi,za];omega) (by with_reducible first | exact bys_one _ | exact u32s_one _ | exact u64s_one _ | exact i64s_one _ | exact n64s_one _ | assumption) (by simp only [zs,zr,zm,za,zb,zu,zw,zi,zt,zd,zc,zn, *]<;>first | done | omega) ?_
   simp only [List.set_cons_zero,List.set_cons_succ]
   refine vl_v (q_assign rfl) rfl<|vl_nil<|th_n<|VC_seq<|VC_region<|vl_v (q_move rfl) rfl<|vl_v (q_as (v:=.bool (decide (¬ (lessSt (subN a i) 16).2=1))) (q_not rfl) (by simp)) rfl<|vl_nil<|th_n<|VC_cond rfl (fun ht20=>?_) (fun ht20=>?_)
   ·skip
    have ht20:=of_decide_eq_true ht20
    rw [show (lessSt (subN a i) 16).1=subN a (i+1) from (if_neg ht20).symm] at hll ⊢
    refine VC_region<|vl_v (q_loads 0 U120 rfl rfl rfl sz120 (by simp only [zb,zu,zw,zi,za];omega)) rfl<|l_storeA 1 rfl rfl rfl sz120 (by simp only [zb,zu,zw,zi,za];omega) (by with_reducible first | exact bys_one _ | exact u32s_one _ | exact u64s_one _ | exact i64s_one _ | exact n64s_one _ | assumption) (by simp only [zb,zu,zw,zi,za];omega) ?_
    simp only [List.set_cons_zero,List.set_cons_succ]
    refine vl_nil<|bl_n<|th_n<|VC_region<|vl_v (q_add_n (q:=1) rfl rfl (by omega)) rfl<|vl_v (q_move rfl) rfl<|vl_nil<|th_n<|⟨i+1,by omega,by omega,(kp [1,2,12] rfl),fun w H=>St.pick H (ks:=[1,2]) (by decide) rfl⟩
   ·skip
    have ht20:=of_decide_eq_false ht20
    have ht20:=Decidable.not_not.1 ht20
    rw [show subN a i=subN a (i+1) from (if_pos ht20).symm] at hsl ⊢
    refine VC_skip<|bl_n<|th_n<|VC_region<|vl_v (q_add_n (q:=1) rfl rfl (by omega)) rfl<|vl_v (q_move rfl) rfl<|vl_nil<|th_n<|⟨i+1,by omega,by omega,(kp [1,2,12] rfl),fun w H=>St.pick H (ks:=[1,2]) (by decide) rfl⟩
  ·skip
   have ht13:=of_decide_eq_false ht13
   obtain rfl:i=2:=by omega
   refine VC_exit<|(th_x (th_x (bl_xs (th_n ?_))))
   refine VC_seq<|VC_region<|l_allocA zr33 rfl<|fun b5=>vl_nil<|th_n<|VC_seq<|VC_seq<|VC_region<|vl_v (q_fldA fo120_0 (by decide) rfl rfl) rfl<|vl_v (q_loads 1 U118 rfl rfl rfl sz118 (by rw [i64s_length];exact hs2)) rfl<|vl_v (q_move rfl) rfl<|vl_nil ?_
   refine th_n<|VC_block<|VC_loop (ι:=Nat) (fun i=>i≤16) (fun i=>[(2,vP b2 0),(5,vP b5 0),(24,.agg (i64s (subN a 2)).toArray),(25,vN i)]) (fun i=>[.blk b5 33 (bys (keySt (subN a 2) i)),.blk b2 33 (bys (List.replicate 32 0))]) (fun i=>16-i) 0 (by omega) (kp [2,5,24,25] rfl) (fun w H=>St.pick H (ks:=[0,2]) (by decide) rfl) ?_
   rintro i hp
   have hkl2:=keySt_length (subN a 2) i
   refine VC_seq<|VC_region<|vl_v (q_lss_n (q:=16) U3 rfl rfl) rfl<|vl_nil<|th_n<|VC_seq<|VC_cond rfl (fun ht26=>?_) (fun ht26=>?_)
   ·skip
    have ht26:=of_decide_eq_true ht26
    refine VC_skip<|th_n<|VC_seq<|VC_block<|VC_seq ?_
    have ht26:i<16:=ht26
    have hl3:((keySt (subN a 2) i).set (2*i) (UInt8.ofNat ((subN a 2).getD i 0 % 256).toNat)).length=32:=by rw [List.length_set,hkl2]
    refine VC_region<|vl_v (q_move rfl) rfl<|vl_v (q_idxV (m:=i) U118 U2 rfl sz2 rfl rfl (by omega) (i64s_atT (by omega))) rfl<|vl_v (q_assign rfl) rfl<|vl_v (q_assign rfl) rfl<|vl_nil<|th_n<|VC_region<|vl_v (q_move rfl) rfl<|vl_v (q_mul_n (p:=2) rfl rfl (by omega)) rfl<|vl_v (q_move rfl) rfl<|vl_v (q_mul_n (p:=2) rfl rfl (by omega)) rfl ?_
    refine vl_v (q_add_n (q:=1) rfl rfl (by omega)) rfl<|vl_v (q_move rfl) rfl<|vl_v (q_conv_ib U2 U5 rfl) rfl<|vl_v (q_move rfl) rfl<|vl_v (q_shr_i (m:=8) rfl rfl (by decide)) rfl<|vl_v (q_conv_ib U2 U5 rfl) rfl<|vl_v (q_idxA U33 sz5 rfl rfl (by omega) (r:=_) (by rw [Nat.mul_one,Nat.zero_add])) rfl<|l_stB 0 rfl rfl rfl sz5 (by omega) ?_
    simp only [List.set_cons_zero,List.set_cons_succ]
    refine vl_v (q_idxA U33 sz5 rfl rfl (by omega) (r:=_) (by rw [Nat.mul_one,Nat.zero_add])) rfl<|l_stB 0 rfl rfl rfl sz5 (by omega) ?_
    simp only [List.set_cons_zero,List.set_cons_succ]
    refine vl_nil<|bl_n<|th_n<|VC_region<|vl_v (q_add_n (q:=1) rfl rfl (by omega)) rfl<|vl_v (q_move rfl) rfl<|vl_nil<|th_n<|⟨i+1,by omega,by omega,(kp [2,5,24,25] rfl),fun w H=>H⟩
   ·skip
    have ht26:=of_decide_eq_false ht26
    obtain rfl:i=16:=by omega
    rw [show keySt (subN a 2) 16=keyL v by rw [keyL,ha]]
    refine VC_exit<|(th_x (th_x (bl_xs (th_n ?_))))
    refine VC_seq<|VC_region<|vl_v (q_loads 0 U33 rfl rfl rfl sz33 (by simp only [zb,zu,zw,zi,za];omega)) rfl ?_
    refine l_storeA 1 rfl rfl rfl sz33 (by simp only [zb,zu,zw,zi,za];omega) (by with_reducible first | exact bys_one _ | exact u32s_one _ | exact u64s_one _ | exact i64s_one _ | exact n64s_one _ | assumption) (by simp only [zs,zr,zm,za,zb,zu,zw,zi,zt,zd,zc,zn, *]<;>first | done | omega) ?_
    simp only [List.set_cons_zero,List.set_cons_succ]
    refine vl_nil<|th_n<|VC_ret ?_
    refine ⟨_,resC1 1 rfl U33 rfl rfl rfl sz33 (by simp only [zb,zu,zw,zi,za];omega),?_⟩
    exact rfl
theorem invSt_no (e:List Int) (k:Nat) (h:¬ (253-k=2∨253-k=4)):mulL (mulL (invSt e k) (invSt e k)) e=invSt e (k+1):=by
 conv=>rhs;unfold invSt
 exact (if_neg h).symm
theorem invSt_yes (e:List Int) (k:Nat) (h:253-k=2∨253-k=4):mulL (invSt e k) (invSt e k)=invSt e (k+1):=by
 conv=>rhs;unfold invSt
 exact (if_pos h).symm
theorem inv_calls (e:List Int) (he:okE e) (w:World) :
 Calls Tryz.prog 61 #[.agg (i64s e).toArray] w fun e' w'=>e'=.returned (.agg (i64s (invL e)).toArray)∧Kept [] w w':=by
 have hel:=he.1
 have hil:=(invL_okE he).1
 refine enter (n:=23) (R:=fun e' L=>e'=.returned (.agg (i64s (invL e)).toArray)) [.agg (i64s e).toArray] F61 rfl rfl rfl (St.refl w) ?_ (fun e w' L' h H=>⟨h,H.kept⟩)
 refine VC_seq<|VC_region<|l_boxA rfl rfl<|fun b1=>l_allocA zr120 rfl<|fun b2=>vl_nil<|th_n<|VC_seq<|VC_region<|vl_v (q_loads 1 U120 rfl rfl rfl sz120 (by simp only [zb,zu,zw,zi,za];omega)) rfl<|l_allocA zr120 rfl<|fun b3=>?_
 refine l_storeA 0 rfl rfl rfl sz120 (by simp only [zb,zu,zw,zi,za];omega) (by with_reducible first | exact bys_one _ | exact u32s_one _ | exact u64s_one _ | exact i64s_one _ | exact n64s_one _ | assumption) (by simp only [zs,zr,zm,za,zb,zu,zw,zi,zt,zd,zc,zn, *]<;>first | done | omega) ?_
 simp only [List.set_cons_zero,List.set_cons_succ]
 refine vl_nil<|th_n<|VC_seq<|VC_seq<|VC_region<|vl_v (q_assign rfl) rfl<|vl_nil<|th_n<|VC_block<|VC_loop (ι:=Nat) (fun k=>k≤254) (fun k=>[(1,vP b1 0),(2,vP b2 0),(3,vP b3 0),(4,vI (253-(k:Int)))]) (fun k=>[.blk b3 120 (i64s (invSt e k)),.blk b2 120 (i64s (List.replicate 16 0)),.blk b1 120 (i64s e)]) (fun k=>254-k) 0 (by omega) (kp [1,2,3,4] rfl) (fun w H=>H) ?_
 rintro k hp
 have hok:=invSt_okE he k
 have hkl:=hok.1
 have hk2:=mulL_okE hok hok
 have hk2l:=hk2.1
 have hk3l:=(mulL_okE hk2 he).1
 refine VC_seq<|VC_seq<|VC_region<|vl_v (q_move rfl) rfl<|vl_v (q_geq_k (q:=0) U3 rfl rfl) rfl<|vl_nil<|th_n<|VC_cond rfl (fun ht7=>?_) (fun ht7=>?_)
 ·skip
  have ht7:=of_decide_eq_true ht7
  refine VC_skip<|th_n<|VC_seq<|VC_block<|VC_seq<|VC_region<|vl_v (q_loads 0 U120 rfl rfl rfl sz120 (by simp only [zb,zu,zw,zi,za];omega)) rfl<|vl_v (q_loads 0 U120 rfl rfl rfl sz120 (by simp only [zb,zu,zw,zi,za];omega)) rfl<|vl_v (q_callV F60 rfl rfl rfl (fun w1 H1=>mul_calls (invSt e k) (invSt e k) hok hok w1)) rfl<|l_storeA 0 rfl rfl rfl sz120 (by simp only [zb,zu,zw,zi,za];omega) (by with_reducible first | exact bys_one _ | exact u32s_one _ | exact u64s_one _ | exact i64s_one _ | exact n64s_one _ | assumption) (by simp only [zb,zu,zw,zi,za];omega) ?_
  simp only [List.set_cons_zero,List.set_cons_succ]
  refine vl_nil<|th_n<|VC_seq<|VC_region<|vl_v (q_move rfl) rfl<|vl_v (q_as (v:=.bool (decide (¬ k=251))) (q_neq_k (q:=2) U3 rfl rfl) (by rw [show (!decide ((253:Int)-(k:Int)=2))=decide (¬ k=251) by rw [Bool.eq_iff_iff];simp;omega])) rfl ?_
  by_cases hs14:¬ k=251
  ·skip
   rw [show decide (¬ k=251)=true from decide_eq_true hs14]
   refine vl_v (q_move rfl) rfl<|vl_vg rfl (q_move rfl) rfl<|vl_vg rfl (q_as (v:=.bool (decide (¬ k=249))) (q_neq_k (q:=4) U3 rfl rfl) (by rw [show (!decide ((253:Int)-(k:Int)=4))=decide (¬ k=249) by rw [Bool.eq_iff_iff];simp;omega])) rfl ?_
   by_cases hs17:¬ k=249
   ·skip
    rw [show decide (¬ k=249)=true from decide_eq_true hs17]
    refine vl_v (q_pickT rfl rfl) rfl<|vl_nil<|th_n<|VC_yes (rfl)<|VC_region<|vl_v (q_loads 0 U120 rfl rfl rfl sz120 (by simp only [zb,zu,zw,zi,za];omega)) rfl<|vl_v (q_loads 2 U120 rfl rfl rfl sz120 (by simp only [zb,zu,zw,zi,za];omega)) rfl<|vl_v (q_callV F60 rfl rfl rfl (fun w1 H1=>mul_calls (mulL (invSt e k) (invSt e k)) e hk2 he w1)) rfl<|l_storeA 0 rfl rfl rfl sz120 (by simp only [zb,zu,zw,zi,za];omega) (by with_reducible first | exact bys_one _ | exact u32s_one _ | exact u64s_one _ | exact i64s_one _ | exact n64s_one _ | assumption) (by simp only [zb,zu,zw,zi,za];omega) ?_
    simp only [List.set_cons_zero,List.set_cons_succ]
    refine vl_nil<|bl_n<|th_n<|VC_region<|vl_v (q_move rfl) rfl<|vl_v (q_sub_i rfl rfl (by omega) (by omega)) rfl<|vl_v (q_assign rfl) rfl<|vl_nil<|th_n ?_
    first | rw [invSt_no e k (by omega)] | rw [invSt_yes e k (by omega)]
    refine ⟨k+1,by omega,by omega,(Sub.cons (s:=1) rfl (Sub.cons (s:=2) rfl (Sub.cons (s:=3) rfl (Sub.cons (s:=4) (congrArg (fun x:Int=>some (vI x)) (show (253-(k:Int)-1:Int)=253-((k+1:Nat):Int) by omega)) (Sub.nil _))))),fun w H=>H⟩
   ·skip
    rw [show decide (¬ k=249)=false from decide_eq_false hs17]
    refine vl_v (q_pickT rfl rfl) rfl<|vl_nil<|th_n<|VC_no (rfl)<|VC_skip<|bl_n<|th_n<|VC_region<|vl_v (q_move rfl) rfl<|vl_v (q_sub_i rfl rfl (by omega) (by omega)) rfl<|vl_v (q_assign rfl) rfl<|vl_nil<|th_n ?_
    first | rw [invSt_no e k (by omega)] | rw [invSt_yes e k (by omega)]
    refine ⟨k+1,by omega,by omega,(Sub.cons (s:=1) rfl (Sub.cons (s:=2) rfl (Sub.cons (s:=3) rfl (Sub.cons (s:=4) (congrArg (fun x:Int=>some (vI x)) (show (253-(k:Int)-1:Int)=253-((k+1:Nat):Int) by omega)) (Sub.nil _))))),fun w H=>H⟩
  ·skip
   rw [show decide (¬ k=251)=false from decide_eq_false hs14]
   refine vl_v (q_move rfl) rfl<|vl_skip rfl rfl<|vl_skip rfl rfl<|vl_v (q_pickF rfl rfl) rfl<|vl_nil<|th_n<|VC_no (rfl)<|VC_skip<|bl_n<|th_n<|VC_region<|vl_v (q_move rfl) rfl<|vl_v (q_sub_i rfl rfl (by omega) (by omega)) rfl ?_
   refine vl_v (q_assign rfl) rfl<|vl_nil<|th_n ?_
   first | rw [invSt_no e k (by omega)] | rw [invSt_yes e k (by omega)]
   refine ⟨k+1,by omega,by omega,(Sub.cons (s:=1) rfl (Sub.cons (s:=2) rfl (Sub.cons (s:=3) rfl (Sub.cons (s:=4) (congrArg (fun x:Int=>some (vI x)) (show (253-(k:Int)-1:Int)=253-((k+1:Nat):Int) by omega)) (Sub.nil _))))),fun w H=>H⟩
 ·skip
  have ht7:=of_decide_eq_false ht7
  obtain rfl:k=254:=by omega
  rw [show invSt e 254=invL e from rfl]
  refine VC_exit<|(th_x (th_x (bl_xs (th_n ?_))))
  refine VC_seq<|VC_region<|vl_v (q_loads 0 U120 rfl rfl rfl sz120 (by simp only [zb,zu,zw,zi,za];omega)) rfl ?_
  refine l_storeA 1 rfl rfl rfl sz120 (by simp only [zb,zu,zw,zi,za];omega) (by with_reducible first | exact bys_one _ | exact u32s_one _ | exact u64s_one _ | exact i64s_one _ | exact n64s_one _ | assumption) (by simp only [zs,zr,zm,za,zb,zu,zw,zi,zt,zd,zc,zn, *]<;>first | done | omega) ?_
  simp only [List.set_cons_zero,List.set_cons_succ]
  refine vl_nil<|th_n<|VC_ret ?_
  refine ⟨_,resC1 1 rfl U120 rfl rfl rfl sz120 (by simp only [zb,zu,zw,zi,za];omega),?_⟩
  exact rfl
end Go.Proofs.YtfpdnpppcoomnaaGreat
namespace Go.PBYtfpdnpppcoomnaaGreat
open Go Go.RowKit
def cz (n:List Nat):List Int:=n.map fun (x:Nat)=>(x:Int)
theorem cz_length (n:List Nat):(cz n).length=n.length:=by simp [cz]
theorem cz_get (n:List Nat) (j:Nat):(cz n).getD j 0=((n.getD j 0:Nat):Int):=by
 unfold cz
 rw [List.getD_eq_getElem?_getD,List.getElem?_map,List.getD_eq_getElem?_getD]
 cases n[j]?<;>rfl
def digN (n:List Nat):Prop:=n.length=16∧∀ j,j<16→n.getD j 0≤65535
theorem digN.dig {n:List Nat} (h:digN n):dig (cz n):=⟨(cz_length n).trans h.1,fun j hj=>by rw [cz_get];have:=h.2 j hj;omega⟩
theorem dig_okE {e:List Int} (h:dig e):okE e:=⟨h.1,by have:=h.2 0 (by omega);omega,fun j _ hj=>h.2 j hj⟩
theorem digN.okE {n:List Nat} (h:digN n):okE (cz n):=dig_okE h.dig
def keyV (x:Int):List UInt8:=bN 32 (x % pZ).toNat
theorem keyL_V {v:List Int} (h:okE v):keyL v=keyV (valI v):=by
 rw [keyV,← keyL_leZ h,bN_leZ (keyL_length v)]
end Go.PBYtfpdnpppcoomnaaGreat
namespace Go.PBYtfpdnpppcoomnaaGreat
def pmStep (n a:Nat) (b:Bool):Nat→Nat
 | 0=>0
 | k+1=>match b with
  | true=>(k+1)*(k+1) % n*a % n
  | false=>(k+1)*(k+1) % n
def pmf (n a:Nat):Nat→Nat→Nat
 | 0,_=>1
 | f+1,e=>pmStep n a (Nat.beq (e % 2) 1) (pmf n a f (e / 2))
theorem pmStep_eq (n a:Nat) (b:Bool) (x:Nat) (hn:1<n):pmStep n a b x % n=(x*x*(if b then a else 1)) % n:=by
 cases x with
 | zero=>simp [pmStep]
 | succ k =>
  cases b with
  | true =>
   show ((k+1)*(k+1) % n*a % n) % n=((k+1)*(k+1)*a) % n
   rw [Nat.mod_mod,Nat.mod_mul_mod]
  | false =>
   show ((k+1)*(k+1) % n) % n=((k+1)*(k+1)*1) % n
   rw [Nat.mod_mod,Nat.mul_one]
theorem pmf_eq (n a:Nat) (hn:1<n):∀ f e,e<2^f→pmf n a f e % n=a^e % n
 | 0,e,h=>by
  have:e=0:=by simpa using h
  subst this
  rfl
 | f+1,e,h=>by
  have ih:=pmf_eq n a hn f (e / 2) (by rw [Nat.pow_succ] at h;omega)
  show pmStep n a (Nat.beq (e % 2) 1) (pmf n a f (e / 2)) % n=a^e % n
  have hx:(pmf n a f (e / 2)*pmf n a f (e / 2)) % n=(a^(e / 2)*a^(e / 2)) % n:=by rw [Nat.mul_mod,ih,← Nat.mul_mod]
  rw [pmStep_eq n a _ _ hn,Nat.mul_mod,hx,← Nat.mul_mod,← Nat.pow_add]
  cases hb:Nat.beq (e % 2) 1 with
  | true =>
   have h1:=Nat.eq_of_beq_eq_true hb
   rw [if_pos rfl,← Nat.pow_succ]
   congr 2
   omega
  | false =>
   have h1:=Nat.ne_of_beq_eq_false hb
   rw [if_neg (by simp),Nat.mul_one]
   congr 2
   omega
def Pr (n:Nat):Prop:=1<n∧∀ d,d ∣ n→d=1∨d=n
theorem Pr.euclid {p a b:Nat} (hp:Pr p) (h:p ∣ a*b):p ∣ a∨p ∣ b:=by
 rcases hp.2 _ (Nat.gcd_dvd_left p a) with h1 | h1
 ·right
  exact (Nat.Coprime.dvd_of_dvd_mul_left (k:=p) (m:=a) (n:=b) h1 h)
 ·left
  rw [← h1]
  exact Nat.gcd_dvd_right p a
theorem Pr.pow {p a:Nat} (hp:Pr p):∀ e,p ∣ a^e→p ∣ a
 | 0,h=>by
  rw [Nat.pow_zero] at h
  have:=Nat.le_of_dvd (by omega) h
  have:=hp.1
  omega
 | e+1,h=>by
  rw [Nat.pow_succ] at h
  rcases hp.euclid h with h | h
  ·exact hp.pow e h
  ·exact h
theorem exists_pr:∀ n,1<n→∃ r,Pr r∧r ∣ n:=by
 intro n
 induction n using Nat.strongRecOn with
 | _ n ih =>
  intro hn
  by_cases h:Pr n
  ·exact ⟨n,h,Nat.dvd_refl n⟩
  ·have h2:∃ d,d ∣ n∧d≠1∧d≠n:=by
    apply Classical.byContradiction
    intro hc
    apply h
    refine ⟨hn,fun d hd=>?_⟩
    by_cases h1:d=1
    ·exact .inl h1
    ·by_cases h3:d=n
     ·exact .inr h3
     ·exact absurd ⟨d,hd,h1,h3⟩ hc
   obtain ⟨d,hd,h1,h3⟩:=h2
   have hle:=Nat.le_of_dvd (by omega) hd
   have hd0:d≠0:=by rintro rfl;have:=Nat.eq_zero_of_zero_dvd hd;omega
   obtain ⟨r,hr,hrd⟩:=ih d (by omega) (by omega)
   exact ⟨r,hr,Nat.dvd_trans hrd hd⟩
def prodP:List (Nat × Nat)→Nat
 | []=>1
 | q::r=>q.1^q.2*prodP r
theorem dvd_prodP {r:Nat} (hr:Pr r):∀ (fs:List (Nat × Nat)),(∀ q∈fs,Pr q.1)→r ∣ prodP fs→∃ q∈fs,q.1=r
 | [],_,h=>by
  rw [prodP] at h
  have:=Nat.le_of_dvd (by omega) h
  have:=hr.1
  omega
 | q::fs,hp,h=>by
  rw [prodP] at h
  rcases hr.euclid h with h1 | h1
  ·have h2:=hr.pow _ h1
   rcases (hp q (by simp)).2 r h2 with h3 | h3
   ·have:=hr.1;omega
   ·exact ⟨q,by simp,h3.symm⟩
  ·obtain ⟨q',h2,h3⟩:=dvd_prodP hr fs (fun q hq=>hp q (by simp [hq])) h1
   exact ⟨q',by simp [h2],h3⟩
theorem pig:∀ (m:Nat) (l:List Nat),l.Nodup→(∀ x∈l,x<m)→l.length≤m
 | 0,[],_,_=>Nat.le_refl 0
 | 0,x::l,_,h=>by have:=h x (by simp);omega
 | m+1,l,hn,h=>by
  by_cases hm:m∈l
  ·have h1:=pig m (l.erase m) (hn.erase m) (fun x hx=>by
    have:=(hn.mem_erase_iff).1 hx
    have h2:=h x this.2
    have:=this.1
    omega)
   rw [List.length_erase_of_mem hm] at h1
   omega
  ·have:=pig m l hn (fun x hx=>by
    have h2:=h x hx
    have:x≠m:=by rintro rfl;exact hm hx
    omega)
   omega
def Goes (n a:Nat):Prop:=a^(n-1) % n=1∧∀ x,0<x→x<n→∃ k,a^k % n=x
theorem pow_mod_eq {n a k m:Nat} (h:a^k % n=1 % n):(a^k)^m % n=1 % n:=by
 rw [Nat.pow_mod,h,← Nat.pow_mod,Nat.one_pow]
theorem goes {n a:Nat} {fs:List (Nat × Nat)} (hn:1<n) (hf:prodP fs=n-1) (hp:∀ q∈fs,Pr q.1) (h1:a^(n-1) % n=1) (hq:∀ q∈fs,a^((n-1) / q.1) % n≠1):Goes n a:=by
 refine ⟨h1,?_⟩
 have e1:1 % n=1:=Nat.mod_eq_of_lt hn
 -- it goes round in no less
 have hord:∀ o,0<o→a^o % n=1→(∀ k,0<k→k<o→a^k % n≠1)→o=n-1:=by
  intro o ho h2 hmin
  have hdiv:(n-1) % o=0:=by
   apply Classical.byContradiction
   intro hc
   refine hmin ((n-1) % o) (by omega) (Nat.mod_lt _ ho) ?_
   have h3:a^(n-1)=(a^o)^((n-1) / o)*a^((n-1) % o):=by
    rw [← Nat.pow_mul,← Nat.pow_add,Nat.div_add_mod]
   rw [h3,Nat.mul_mod,pow_mod_eq (by rw [h2,e1]),e1,Nat.one_mul,Nat.mod_mod] at h1
   exact h1
  have hd:=Nat.div_add_mod (n-1) o
  rw [hdiv,Nat.add_zero] at hd
  by_cases hd1:(n-1) / o=1
  ·rw [hd1,Nat.mul_one] at hd;exact hd
  ·exfalso
   have hd0:(n-1) / o≠0:=by intro h;rw [h,Nat.mul_zero] at hd;omega
   obtain ⟨r,hr,hrd⟩:=exists_pr ((n-1) / o) (Nat.lt_of_le_of_ne (Nat.pos_of_ne_zero hd0) (Ne.symm hd1))
   have hrn:r ∣ prodP fs:=by rw [hf,← hd];exact Nat.dvd_trans hrd (Nat.dvd_mul_left _ _)
   obtain ⟨q,hqm,rfl⟩:=dvd_prodP hr fs hp hrn
   obtain ⟨c,hc⟩:=hrd
   refine hq q hqm ?_
   have h4:(n-1) / q.1=o*c:=by
    rw [← hd,hc,Nat.mul_left_comm,Nat.mul_div_cancel_left _ (by have:=hr.1;omega)]
   rw [h4,Nat.pow_mul,pow_mod_eq (by rw [h2,e1]),e1]
 -- the least such
 have hleast:∃ o,0<o∧a^o % n=1∧∀ k,0<k→k<o→a^k % n≠1:=by
  have key:∀ m o,o≤m→0<o→a^o % n=1→∃ o,0<o∧a^o % n=1∧∀ k,0<k→k<o→a^k % n≠1:=by
   intro m
   induction m with
   | zero=>intro o h1 h2;omega
   | succ m ih =>
    intro o h1 h2 h3
    by_cases h:∃ k,0<k∧k<o∧a^k % n=1
    ·obtain ⟨k,a1,a2,a3⟩:=h
     exact ih k (by omega) a1 a3
    ·exact ⟨o,h2,h3,fun k a1 a2 a3=>h ⟨k,a1,a2,a3⟩⟩
  exact key (n-1) (n-1) (Nat.le_refl _) (by omega) h1
 obtain ⟨o,ho,h2,hmin⟩:=hleast
 obtain rfl:=hord o ho h2 hmin
 -- what is a power can be undone
 have hundo:∀ k x,k≤n-1→a^k*x % n=1→True:=fun _ _ _ _=>trivial
 have hnz:∀ k,k≤n-1→a^k % n≠0:=by
  intro k hk h0
  have h3:a^(n-1)=a^k*a^(n-1-k):=by rw [← Nat.pow_add];congr 1;omega
  rw [h3,Nat.mul_mod,h0,Nat.zero_mul,Nat.zero_mod] at h2
  cases h2
 have hinj:∀ i j,i<j→j<n-1→a^i % n≠a^j % n:=by
  intro i j hij hj he
  refine hmin (j-i) (by omega) (by omega) ?_
  -- times a^(n-1-i)
  have h3:a^j=a^i*a^(j-i):=by rw [← Nat.pow_add];congr 1;omega
  have h4:a^(n-1-i)*a^i=a^(n-1):=by rw [← Nat.pow_add];congr 1;omega
  have h5:a^(n-1-i)*a^j=a^(n-1)*a^(j-i):=by rw [h3,← Nat.mul_assoc,h4]
  have h6:(a^(n-1-i)*a^i) % n=(a^(n-1-i)*a^j) % n:=by rw [Nat.mul_mod,he,← Nat.mul_mod]
  rw [h4,h5,h2,Nat.mul_mod,h2,Nat.one_mul,Nat.mod_mod] at h6
  exact h6.symm
 -- all are met
 intro x hx hxn
 apply Classical.byContradiction
 intro hc
 have hnodup:(0::x::(List.range (n-1)).map fun k=>a^k % n).Nodup:=by
  rw [List.nodup_cons,List.nodup_cons]
  refine ⟨?_,?_,?_⟩
  ·intro h
   rcases List.mem_cons.1 h with h | h
   ·omega
   ·obtain ⟨k,hk,hk2⟩:=List.mem_map.1 h
    exact hnz k (by have:=List.mem_range.1 hk;omega) hk2
  ·intro h
   obtain ⟨k,hk,hk2⟩:=List.mem_map.1 h
   exact hc ⟨k,hk2⟩
  ·unfold List.Nodup
   rw [List.pairwise_map]
   refine List.Pairwise.imp_of_mem ?_ (List.pairwise_lt_range)
   intro i j hi hj hij
   exact hinj i j hij (by have:=List.mem_range.1 hj;omega)
 have:=pig n _ hnodup (fun y hy=>by
  rcases List.mem_cons.1 hy with rfl | hy
  ·omega
  ·rcases List.mem_cons.1 hy with rfl | hy
   ·exact hxn
   ·obtain ⟨k,_,rfl⟩:=List.mem_map.1 hy
    exact Nat.mod_lt _ (by omega))
 simp only [List.length_cons,List.length_map,List.length_range] at this
 omega
theorem Goes.fermat {n a:Nat} (hn:1<n) (h:Goes n a) (x:Nat) (hx:x % n≠0):x^(n-1) % n=1:=by
 obtain ⟨h1,h2⟩:=h
 obtain ⟨k,hk⟩:=h2 (x % n) (by omega) (Nat.mod_lt _ (by omega))
 rw [Nat.pow_mod,← hk,← Nat.pow_mod,← Nat.pow_mul,Nat.mul_comm,Nat.pow_mul,Nat.pow_mod,h1,Nat.one_pow,Nat.mod_eq_of_lt hn]
theorem Goes.pr {n a:Nat} (hn:1<n) (h:Goes n a):Pr n:=by
 refine ⟨hn,fun d hd=>?_⟩
 obtain ⟨c,hc⟩:=hd
 by_cases hdn:d % n=0
 ·right
  have hd0:d≠0:=by rintro rfl;omega
  have h1:n ∣ d:=Nat.dvd_of_mod_eq_zero hdn
  have h2:d ∣ n:=⟨c,hc⟩
  exact Nat.dvd_antisymm h2 h1
 ·left
  have hf:=h.fermat hn d hdn
  -- n divides d^(n-1)*c,which is c modulo n
  have h3:d^(n-1)*c % n=0:=by
   have:d^(n-1)*c=n*d^(n-2):=by
    have e:d^(n-1)=d^(n-2)*d:=by rw [← Nat.pow_succ];congr 1;omega
    rw [e,Nat.mul_assoc,← hc,Nat.mul_comm]
   rw [this,Nat.mul_mod_right]
  rw [Nat.mul_mod,hf,Nat.one_mul,Nat.mod_mod] at h3
  have hcn:n ∣ c:=Nat.dvd_of_mod_eq_zero h3
  have hc0:c≠0:=by rintro rfl;omega
  have hle:=Nat.le_of_dvd (by omega) hcn
  have hcd:c ∣ n:=⟨d,by rw [Nat.mul_comm];exact hc⟩
  have hle2:=Nat.le_of_dvd (by omega) hcd
  have:c=n:=by omega
  subst this
  have:d*c=1*c:=by omega
  exact Nat.eq_of_mul_eq_mul_right (by omega) this
theorem pratt {n a:Nat} (fs:List (Nat × Nat)) (h:(Nat.ble 2 n&&Nat.beq (prodP fs) (n-1)&&Nat.ble n (2^300)&&Nat.beq (pmf n a 300 (n-1)) 1&&fs.all fun q=>!Nat.beq (pmf n a 300 ((n-1) / q.1) % n) 1)=true) (hp:∀ q∈fs,Pr q.1):Goes n a∧Pr n:=by
 simp only [Bool.and_eq_true,List.all_eq_true,Bool.not_eq_true'] at h
 obtain ⟨⟨⟨⟨h1,h2⟩,h3⟩,h4⟩,h5⟩:=h
 have hn:=Nat.le_of_ble_eq_true h1
 have h3:=Nat.le_of_ble_eq_true h3
 have e:=pmf_eq n a (by omega) 300 (n-1) (by omega)
 rw [Nat.eq_of_beq_eq_true h4,Nat.mod_eq_of_lt (by omega)] at e
 have hg:Goes n a:=goes (by omega) (Nat.eq_of_beq_eq_true h2) hp e.symm (fun q hq he=>by
  have h6:=Nat.ne_of_beq_eq_false (h5 q hq)
  have hle:(n-1) / q.1≤n-1:=Nat.div_le_self _ _
  rw [pmf_eq n a (by omega) 300 _ (by omega)] at h6
  exact h6 he)
 exact ⟨hg,hg.pr (by omega)⟩
theorem pr_small {n:Nat} (h:(Nat.ble 2 n&&Nat.ble n 1023&&(List.range 32).all fun d=>Nat.ble d 1||!Nat.beq (n % d) 0||Nat.beq d n)=true):Pr n:=by
 simp only [Bool.and_eq_true,List.all_eq_true,List.mem_range,Bool.or_eq_true,Bool.not_eq_true'] at h
 obtain ⟨⟨h1,h2⟩,h3⟩:=h
 have h1:=Nat.le_of_ble_eq_true h1
 have h2:=Nat.le_of_ble_eq_true h2
 have key:∀ d,d ∣ n→d<32→d=1∨d=n:=by
  intro d hd hlt
  rcases h3 d hlt with (h | h) | h
  ·have:=Nat.le_of_ble_eq_true h
   have:d≠0:=by rintro rfl;have:=Nat.eq_zero_of_zero_dvd hd;omega
   omega
  ·exact absurd (Nat.mod_eq_zero_of_dvd hd) (Nat.ne_of_beq_eq_false h)
  ·exact .inr (Nat.eq_of_beq_eq_true h)
 refine ⟨by omega,fun d hd=>?_⟩
 by_cases hlt:d<32
 ·exact key d hd hlt
 ·obtain ⟨c,hc⟩:=hd
  have hc32:c<32:=by
   apply Classical.byContradiction
   intro h
   have:32*32≤d*c:=Nat.mul_le_mul (by omega) (by omega)
   omega
  rcases key c ⟨d,by rw [Nat.mul_comm];exact hc⟩ hc32 with h | h
  ·right;rw [h,Nat.mul_one] at hc;exact hc.symm
  ·left
   have:d*n=1*n:=by rw [h] at hc;omega
   exact Nat.eq_of_mul_eq_mul_right (by omega) this
theorem forall_nil:∀ q∈([]:List (Nat × Nat)),Pr q.1:=by intro q h;cases h
theorem forall_cons {q:Nat × Nat} {l:List (Nat × Nat)} (h:Pr q.1) (hl:∀ q∈l,Pr q.1):∀ r∈q::l,Pr r.1:=by
 intro r hr
 rcases List.mem_cons.1 hr with rfl | hr
 ·exact h
 ·exact hl r hr
theorem pr2:Pr 2:=pr_small (by kernel_rfl)
theorem pr3:Pr 3:=pr_small (by kernel_rfl)
theorem pr17:Pr 17:=pr_small (by kernel_rfl)
theorem pr479:Pr 479:=pr_small (by kernel_rfl)
theorem go32573:Goes 32573 2∧Pr 32573:=pratt [(2,2),(17,1),(479,1)] (by kernel_rfl) (forall_cons pr2 (forall_cons pr17 (forall_cons pr479 forall_nil)))
theorem pr32573:Pr 32573:=go32573.2
theorem go65147:Goes 65147 2∧Pr 65147:=pratt [(2,1),(32573,1)] (by kernel_rfl) (forall_cons pr2 (forall_cons pr32573 forall_nil))
theorem pr65147:Pr 65147:=go65147.2
theorem pr353:Pr 353:=pr_small (by kernel_rfl)
theorem pr59:Pr 59:=pr_small (by kernel_rfl)
theorem pr487:Pr 487:=pr_small (by kernel_rfl)
theorem go57467:Goes 57467 2∧Pr 57467:=pratt [(2,1),(59,1),(487,1)] (by kernel_rfl) (forall_cons pr2 (forall_cons pr59 (forall_cons pr487 forall_nil)))
theorem pr57467:Pr 57467:=go57467.2
theorem pr7:Pr 7:=pr_small (by kernel_rfl)
theorem pr131:Pr 131:=pr_small (by kernel_rfl)
theorem go132049:Goes 132049 26∧Pr 132049:=pratt [(2,4),(3,2),(7,1),(131,1)] (by kernel_rfl) (forall_cons pr2 (forall_cons pr3 (forall_cons pr7 (forall_cons pr131 forall_nil))))
theorem pr132049:Pr 132049:=go132049.2
theorem pr43:Pr 43:=pr_small (by kernel_rfl)
theorem pr23:Pr 23:=pr_small (by kernel_rfl)
theorem go3727:Goes 3727 3∧Pr 3727:=pratt [(2,1),(3,4),(23,1)] (by kernel_rfl) (forall_cons pr2 (forall_cons pr3 (forall_cons pr23 forall_nil)))
theorem pr3727:Pr 3727:=go3727.2
theorem go1923133:Goes 1923133 2∧Pr 1923133:=pratt [(2,2),(3,1),(43,1),(3727,1)] (by kernel_rfl) (forall_cons pr2 (forall_cons pr3 (forall_cons pr43 (forall_cons pr3727 forall_nil))))
theorem pr1923133:Pr 1923133:=go1923133.2
theorem pr31:Pr 31:=pr_small (by kernel_rfl)
theorem pr107:Pr 107:=pr_small (by kernel_rfl)
theorem pr223:Pr 223:=pr_small (by kernel_rfl)
theorem pr173:Pr 173:=pr_small (by kernel_rfl)
theorem go4153:Goes 4153 5∧Pr 4153:=pratt [(2,3),(3,1),(173,1)] (by kernel_rfl) (forall_cons pr2 (forall_cons pr3 (forall_cons pr173 forall_nil)))
theorem pr4153:Pr 4153:=go4153.2
theorem pr5:Pr 5:=pr_small (by kernel_rfl)
theorem pr41:Pr 41:=pr_small (by kernel_rfl)
theorem go1723:Goes 1723 3∧Pr 1723:=pratt [(2,1),(3,1),(7,1),(41,1)] (by kernel_rfl) (forall_cons pr2 (forall_cons pr3 (forall_cons pr7 (forall_cons pr41 forall_nil))))
theorem pr1723:Pr 1723:=go1723.2
theorem go430751:Goes 430751 17∧Pr 430751:=pratt [(2,1),(5,3),(1723,1)] (by kernel_rfl) (forall_cons pr2 (forall_cons pr5 (forall_cons pr1723 forall_nil)))
theorem pr430751:Pr 430751:=go430751.2
theorem go31757755568855353:Goes 31757755568855353 10∧Pr 31757755568855353:=pratt [(2,3),(3,1),(31,1),(107,1),(223,1),(4153,1),(430751,1)] (by kernel_rfl) (forall_cons pr2 (forall_cons pr3 (forall_cons pr31 (forall_cons pr107 (forall_cons pr223 (forall_cons pr4153 (forall_cons pr430751 forall_nil)))))))
theorem pr31757755568855353:Pr 31757755568855353:=go31757755568855353.2
theorem pr19:Pr 19:=pr_small (by kernel_rfl)
theorem pr83:Pr 83:=pr_small (by kernel_rfl)
theorem go9463:Goes 9463 3∧Pr 9463:=pratt [(2,1),(3,1),(19,1),(83,1)] (by kernel_rfl) (forall_cons pr2 (forall_cons pr3 (forall_cons pr19 (forall_cons pr83 forall_nil))))
theorem pr9463:Pr 9463:=go9463.2
theorem go37853:Goes 37853 2∧Pr 37853:=pratt [(2,2),(9463,1)] (by kernel_rfl) (forall_cons pr2 (forall_cons pr9463 forall_nil))
theorem pr37853:Pr 37853:=go37853.2
theorem go75707:Goes 75707 2∧Pr 75707:=pratt [(2,1),(37853,1)] (by kernel_rfl) (forall_cons pr2 (forall_cons pr37853 forall_nil))
theorem pr75707:Pr 75707:=go75707.2
theorem pr13:Pr 13:=pr_small (by kernel_rfl)
theorem pr29:Pr 29:=pr_small (by kernel_rfl)
theorem go2437:Goes 2437 2∧Pr 2437:=pratt [(2,2),(3,1),(7,1),(29,1)] (by kernel_rfl) (forall_cons pr2 (forall_cons pr3 (forall_cons pr7 (forall_cons pr29 forall_nil))))
theorem pr2437:Pr 2437:=go2437.2
theorem pr97:Pr 97:=pr_small (by kernel_rfl)
theorem pr419:Pr 419:=pr_small (by kernel_rfl)
theorem go569003:Goes 569003 2∧Pr 569003:=pratt [(2,1),(7,1),(97,1),(419,1)] (by kernel_rfl) (forall_cons pr2 (forall_cons pr7 (forall_cons pr97 (forall_cons pr419 forall_nil))))
theorem pr569003:Pr 569003:=go569003.2
theorem go2773320623:Goes 2773320623 5∧Pr 2773320623:=pratt [(2,1),(2437,1),(569003,1)] (by kernel_rfl) (forall_cons pr2 (forall_cons pr2437 (forall_cons pr569003 forall_nil)))
theorem pr2773320623:Pr 2773320623:=go2773320623.2
theorem go72106336199:Goes 72106336199 7∧Pr 72106336199:=pratt [(2,1),(13,1),(2773320623,1)] (by kernel_rfl) (forall_cons pr2 (forall_cons pr13 (forall_cons pr2773320623 forall_nil)))
theorem pr72106336199:Pr 72106336199:=go72106336199.2
theorem pr47:Pr 47:=pr_small (by kernel_rfl)
theorem pr127:Pr 127:=pr_small (by kernel_rfl)
theorem pr103:Pr 103:=pr_small (by kernel_rfl)
theorem pr991:Pr 991:=pr_small (by kernel_rfl)
theorem go8574133:Goes 8574133 2∧Pr 8574133:=pratt [(2,2),(3,1),(7,1),(103,1),(991,1)] (by kernel_rfl) (forall_cons pr2 (forall_cons pr3 (forall_cons pr7 (forall_cons pr103 (forall_cons pr991 forall_nil)))))
theorem pr8574133:Pr 8574133:=go8574133.2
theorem go1919519569386763:Goes 1919519569386763 2∧Pr 1919519569386763:=pratt [(2,1),(3,1),(7,1),(19,1),(47,2),(127,1),(8574133,1)] (by kernel_rfl) (forall_cons pr2 (forall_cons pr3 (forall_cons pr7 (forall_cons pr19 (forall_cons pr47 (forall_cons pr127 (forall_cons pr8574133 forall_nil)))))))
theorem pr1919519569386763:Pr 1919519569386763:=go1919519569386763.2
theorem go75445702479781427272750846543864801:Goes 75445702479781427272750846543864801 7∧Pr 75445702479781427272750846543864801:=pratt [(2,5),(3,2),(5,2),(75707,1),(72106336199,1),(1919519569386763,1)] (by kernel_rfl) (forall_cons pr2 (forall_cons pr3 (forall_cons pr5 (forall_cons pr75707 (forall_cons pr72106336199 (forall_cons pr1919519569386763 forall_nil))))))
theorem pr75445702479781427272750846543864801:Pr 75445702479781427272750846543864801:=go75445702479781427272750846543864801.2
theorem go74058212732561358302231226437062788676166966415465897661863160754340907:Goes 74058212732561358302231226437062788676166966415465897661863160754340907 2∧Pr 74058212732561358302231226437062788676166966415465897661863160754340907:=pratt [(2,1),(3,1),(353,1),(57467,1),(132049,1),(1923133,1),(31757755568855353,1),(75445702479781427272750846543864801,1)] (by kernel_rfl) (forall_cons pr2 (forall_cons pr3 (forall_cons pr353 (forall_cons pr57467 (forall_cons pr132049 (forall_cons pr1923133 (forall_cons pr31757755568855353 (forall_cons pr75445702479781427272750846543864801 forall_nil))))))))
theorem pr74058212732561358302231226437062788676166966415465897661863160754340907:Pr 74058212732561358302231226437062788676166966415465897661863160754340907:=go74058212732561358302231226437062788676166966415465897661863160754340907.2
theorem go57896044618658097711785492504343953926634992332820282019728792003956564819949:Goes 57896044618658097711785492504343953926634992332820282019728792003956564819949 2∧Pr 57896044618658097711785492504343953926634992332820282019728792003956564819949:=pratt [(2,2),(3,1),(65147,1),(74058212732561358302231226437062788676166966415465897661863160754340907,1)] (by kernel_rfl) (forall_cons pr2 (forall_cons pr3 (forall_cons pr65147 (forall_cons pr74058212732561358302231226437062788676166966415465897661863160754340907 forall_nil))))
theorem pr11:Pr 11:=pr_small (by kernel_rfl)
theorem go34123:Goes 34123 2∧Pr 34123:=pratt [(2,1),(3,1),(11,2),(47,1)] (by kernel_rfl) (forall_cons pr2 (forall_cons pr3 (forall_cons pr11 (forall_cons pr47 forall_nil))))
theorem pr34123:Pr 34123:=go34123.2
theorem go409477:Goes 409477 2∧Pr 409477:=pratt [(2,2),(3,1),(34123,1)] (by kernel_rfl) (forall_cons pr2 (forall_cons pr3 (forall_cons pr34123 forall_nil)))
theorem pr409477:Pr 409477:=go409477.2
theorem go14741173:Goes 14741173 2∧Pr 14741173:=pratt [(2,2),(3,2),(409477,1)] (by kernel_rfl) (forall_cons pr2 (forall_cons pr3 (forall_cons pr409477 forall_nil)))
theorem pr14741173:Pr 14741173:=go14741173.2
theorem go58964693:Goes 58964693 2∧Pr 58964693:=pratt [(2,2),(14741173,1)] (by kernel_rfl) (forall_cons pr2 (forall_cons pr14741173 forall_nil))
theorem pr58964693:Pr 58964693:=go58964693.2
theorem go30703:Goes 30703 3∧Pr 30703:=pratt [(2,1),(3,1),(7,1),(17,1),(43,1)] (by kernel_rfl) (forall_cons pr2 (forall_cons pr3 (forall_cons pr7 (forall_cons pr17 (forall_cons pr43 forall_nil)))))
theorem pr30703:Pr 30703:=go30703.2
theorem pr79:Pr 79:=pr_small (by kernel_rfl)
theorem go41081:Goes 41081 3∧Pr 41081:=pratt [(2,3),(5,1),(13,1),(79,1)] (by kernel_rfl) (forall_cons pr2 (forall_cons pr5 (forall_cons pr13 (forall_cons pr79 forall_nil))))
theorem pr41081:Pr 41081:=go41081.2
theorem go82163:Goes 82163 2∧Pr 82163:=pratt [(2,1),(41081,1)] (by kernel_rfl) (forall_cons pr2 (forall_cons pr41081 forall_nil))
theorem pr82163:Pr 82163:=go82163.2
theorem pr67:Pr 67:=pr_small (by kernel_rfl)
theorem go22111:Goes 22111 6∧Pr 22111:=pratt [(2,1),(3,1),(5,1),(11,1),(67,1)] (by kernel_rfl) (forall_cons pr2 (forall_cons pr3 (forall_cons pr5 (forall_cons pr11 (forall_cons pr67 forall_nil)))))
theorem pr22111:Pr 22111:=go22111.2
theorem go132667:Goes 132667 5∧Pr 132667:=pratt [(2,1),(3,1),(22111,1)] (by kernel_rfl) (forall_cons pr2 (forall_cons pr3 (forall_cons pr22111 forall_nil)))
theorem pr132667:Pr 132667:=go132667.2
theorem go17231:Goes 17231 13∧Pr 17231:=pratt [(2,1),(5,1),(1723,1)] (by kernel_rfl) (forall_cons pr2 (forall_cons pr5 (forall_cons pr1723 forall_nil)))
theorem pr17231:Pr 17231:=go17231.2
theorem go137849:Goes 137849 3∧Pr 137849:=pratt [(2,3),(17231,1)] (by kernel_rfl) (forall_cons pr2 (forall_cons pr17231 forall_nil))
theorem pr137849:Pr 137849:=go137849.2
theorem go3044861653679985063343:Goes 3044861653679985063343 5∧Pr 3044861653679985063343:=pratt [(2,1),(3,1),(11,1),(30703,1),(82163,1),(132667,1),(137849,1)] (by kernel_rfl) (forall_cons pr2 (forall_cons pr3 (forall_cons pr11 (forall_cons pr30703 (forall_cons pr82163 (forall_cons pr132667 (forall_cons pr137849 forall_nil)))))))
theorem pr3044861653679985063343:Pr 3044861653679985063343:=go3044861653679985063343.2
theorem go198211423230930754013084525763697:Goes 198211423230930754013084525763697 5∧Pr 198211423230930754013084525763697:=pratt [(2,4),(3,1),(23,1),(58964693,1),(3044861653679985063343,1)] (by kernel_rfl) (forall_cons pr2 (forall_cons pr3 (forall_cons pr23 (forall_cons pr58964693 (forall_cons pr3044861653679985063343 forall_nil)))))
theorem pr198211423230930754013084525763697:Pr 198211423230930754013084525763697:=go198211423230930754013084525763697.2
theorem pr269:Pr 269:=pr_small (by kernel_rfl)
theorem pr73:Pr 73:=pr_small (by kernel_rfl)
theorem pr307:Pr 307:=pr_small (by kernel_rfl)
theorem pr113:Pr 113:=pr_small (by kernel_rfl)
theorem go2939:Goes 2939 2∧Pr 2939:=pratt [(2,1),(13,1),(113,1)] (by kernel_rfl) (forall_cons pr2 (forall_cons pr13 (forall_cons pr113 forall_nil)))
theorem pr2939:Pr 2939:=go2939.2
theorem go5879:Goes 5879 11∧Pr 5879:=pratt [(2,1),(2939,1)] (by kernel_rfl) (forall_cons pr2 (forall_cons pr2939 forall_nil))
theorem pr5879:Pr 5879:=go5879.2
theorem go292386187:Goes 292386187 2∧Pr 292386187:=pratt [(2,1),(3,4),(307,1),(5879,1)] (by kernel_rfl) (forall_cons pr2 (forall_cons pr3 (forall_cons pr307 (forall_cons pr5879 forall_nil))))
theorem pr292386187:Pr 292386187:=go292386187.2
theorem go213441916511:Goes 213441916511 13∧Pr 213441916511:=pratt [(2,1),(5,1),(73,1),(292386187,1)] (by kernel_rfl) (forall_cons pr2 (forall_cons pr5 (forall_cons pr73 (forall_cons pr292386187 forall_nil))))
theorem pr213441916511:Pr 213441916511:=go213441916511.2
theorem go1361:Goes 1361 3∧Pr 1361:=pratt [(2,4),(5,1),(17,1)] (by kernel_rfl) (forall_cons pr2 (forall_cons pr5 (forall_cons pr17 forall_nil)))
theorem pr1361:Pr 1361:=go1361.2
theorem go2851:Goes 2851 2∧Pr 2851:=pratt [(2,1),(3,1),(5,2),(19,1)] (by kernel_rfl) (forall_cons pr2 (forall_cons pr3 (forall_cons pr5 (forall_cons pr19 forall_nil))))
theorem pr2851:Pr 2851:=go2851.2
theorem go3797:Goes 3797 2∧Pr 3797:=pratt [(2,2),(13,1),(73,1)] (by kernel_rfl) (forall_cons pr2 (forall_cons pr13 (forall_cons pr73 forall_nil)))
theorem pr3797:Pr 3797:=go3797.2
theorem go531581:Goes 531581 2∧Pr 531581:=pratt [(2,2),(5,1),(7,1),(3797,1)] (by kernel_rfl) (forall_cons pr2 (forall_cons pr5 (forall_cons pr7 (forall_cons pr3797 forall_nil))))
theorem pr531581:Pr 531581:=go531581.2
theorem go2551:Goes 2551 6∧Pr 2551:=pratt [(2,1),(3,1),(5,2),(17,1)] (by kernel_rfl) (forall_cons pr2 (forall_cons pr3 (forall_cons pr5 (forall_cons pr17 forall_nil))))
theorem pr2551:Pr 2551:=go2551.2
theorem go1224481:Goes 1224481 13∧Pr 1224481:=pratt [(2,5),(3,1),(5,1),(2551,1)] (by kernel_rfl) (forall_cons pr2 (forall_cons pr3 (forall_cons pr5 (forall_cons pr2551 forall_nil))))
theorem pr1224481:Pr 1224481:=go1224481.2
theorem go1257559732178653:Goes 1257559732178653 2∧Pr 1257559732178653:=pratt [(2,2),(3,1),(7,1),(23,1),(531581,1),(1224481,1)] (by kernel_rfl) (forall_cons pr2 (forall_cons pr3 (forall_cons pr7 (forall_cons pr23 (forall_cons pr531581 (forall_cons pr1224481 forall_nil))))))
theorem pr1257559732178653:Pr 1257559732178653:=go1257559732178653.2
theorem go4434155615661930479:Goes 4434155615661930479 17∧Pr 4434155615661930479:=pratt [(2,1),(41,1),(43,1),(1257559732178653,1)] (by kernel_rfl) (forall_cons pr2 (forall_cons pr41 (forall_cons pr43 (forall_cons pr1257559732178653 forall_nil))))
theorem pr4434155615661930479:Pr 4434155615661930479:=go4434155615661930479.2
theorem go172054593956031949258510691:Goes 172054593956031949258510691 2∧Pr 172054593956031949258510691:=pratt [(2,1),(5,1),(1361,1),(2851,1),(4434155615661930479,1)] (by kernel_rfl) (forall_cons pr2 (forall_cons pr5 (forall_cons pr1361 (forall_cons pr2851 (forall_cons pr4434155615661930479 forall_nil)))))
theorem pr172054593956031949258510691:Pr 172054593956031949258510691:=go172054593956031949258510691.2
theorem go19757330305831588566944191468367130476339:Goes 19757330305831588566944191468367130476339 2∧Pr 19757330305831588566944191468367130476339:=pratt [(2,1),(269,1),(213441916511,1),(172054593956031949258510691,1)] (by kernel_rfl) (forall_cons pr2 (forall_cons pr269 (forall_cons pr213441916511 (forall_cons pr172054593956031949258510691 forall_nil))))
theorem pr19757330305831588566944191468367130476339:Pr 19757330305831588566944191468367130476339:=go19757330305831588566944191468367130476339.2
theorem go276602624281642239937218680557139826668747:Goes 276602624281642239937218680557139826668747 2∧Pr 276602624281642239937218680557139826668747:=pratt [(2,1),(7,1),(19757330305831588566944191468367130476339,1)] (by kernel_rfl) (forall_cons pr2 (forall_cons pr7 (forall_cons pr19757330305831588566944191468367130476339 forall_nil)))
theorem pr276602624281642239937218680557139826668747:Pr 276602624281642239937218680557139826668747:=go276602624281642239937218680557139826668747.2
theorem go7237005577332262213973186563042994240857116359379907606001950938285454250989:Goes 7237005577332262213973186563042994240857116359379907606001950938285454250989 2∧Pr 7237005577332262213973186563042994240857116359379907606001950938285454250989:=pratt [(2,2),(3,1),(11,1),(198211423230930754013084525763697,1),(276602624281642239937218680557139826668747,1)] (by kernel_rfl) (forall_cons pr2 (forall_cons pr3 (forall_cons pr11 (forall_cons pr198211423230930754013084525763697 (forall_cons pr276602624281642239937218680557139826668747 forall_nil)))))
theorem pr7237005577332262213973186563042994240857116359379907606001950938285454250989:Pr 7237005577332262213973186563042994240857116359379907606001950938285454250989:=go7237005577332262213973186563042994240857116359379907606001950938285454250989.2
end Go.PBYtfpdnpppcoomnaaGreat
namespace Go.PBYtfpdnpppcoomnaaGreat
open Go Go.RowKit
instance instNZp:NeZero pN:=⟨by unfold pN;omega⟩
abbrev Fp:=Fin pN
def fz (x:Int):Fp:=⟨(x % pZ).toNat,by
 have h1:0≤x % pZ:=Int.emod_nonneg _ (by decide)
 have h2:x % pZ<pZ:=Int.emod_lt_of_pos _ (by decide)
 unfold pN
 simp only [pZ] at *
 omega⟩
theorem fz_val (x:Int):((fz x).val:Int)=x % pZ:=by
 have h1:0≤x % pZ:=Int.emod_nonneg _ (by decide)
 show ((x % pZ).toNat:Int)=x % pZ
 omega
theorem fz_eq {x y:Int} (h:x % pZ=y % pZ):fz x=fz y:=by
 apply Fin.ext
 show (x % pZ).toNat=(y % pZ).toNat
 rw [h]
theorem fp_ext {a b:Fp} (h:(a.val:Int)=(b.val:Int)):a=b:=Fin.ext (by omega)
theorem fz_add (x y:Int):fz (x+y)=fz x+fz y:=by
 apply fp_ext
 rw [fz_val,Fin.val_add,Int.natCast_emod,Int.natCast_add,fz_val,fz_val]
 exact Int.add_emod x y pZ
theorem fz_mul (x y:Int):fz (x*y)=fz x*fz y:=by
 apply fp_ext
 rw [fz_val,Fin.val_mul,Int.natCast_emod,Int.natCast_mul,fz_val,fz_val]
 exact Int.mul_emod x y pZ
theorem fz_sub (x y:Int):fz (x-y)=fz x-fz y:=by
 have h:fz (x-y)+fz y=fz x:=by rw [← fz_add,Int.sub_add_cancel]
 rw [← h]
 grind
theorem fz_of (a:Fp):fz (a.val:Int)=a:=by
 apply fp_ext
 rw [fz_val]
 have:=a.isLt
 unfold pN at this
 simp only [pZ]
 omega
def finv (a:Fp):Fp:=fz ((a.val:Int)^(pN-2))
theorem fz_pow (x:Int):∀ n:Nat,fz (x^n)=fz (((fz x).val:Int)^n)
 | 0=>by rw [Int.pow_zero,Int.pow_zero]
 | n+1=>by rw [Int.pow_succ,Int.pow_succ,fz_mul,fz_mul,← fz_pow x n,fz_of]
theorem finv_fz (x:Int):fz (x^(pN-2))=finv (fz x):=fz_pow x _
theorem goP:Goes pN 2:=go57896044618658097711785492504343953926634992332820282019728792003956564819949.1
theorem mul_finv {a:Fp} (h:a≠0):a*finv a=1:=by
 have h1:a.val % pN≠0:=by
  rw [Nat.mod_eq_of_lt a.isLt]
  intro h0
  exact h (Fin.ext h0)
 have h2:a.val^(pN-1) % pN=1:=goP.fermat (by unfold pN;omega) a.val h1
 have e:a=fz (a.val:Int):=(fz_of a).symm
 have e2:a*finv a=fz ((a.val:Int)*(a.val:Int)^(pN-2)):=by rw [fz_mul,fz_of];rfl
 rw [e2]
 have e3:(a.val:Int)*(a.val:Int)^(pN-2)=((a.val^(pN-1):Nat):Int):=by
  rw [Int.mul_comm,← Int.pow_succ,show (pN-2).succ=pN-1 by unfold pN;omega,Int.natCast_pow]
 rw [e3]
 apply fp_ext
 rw [fz_val]
 have h3:((a.val^(pN-1) % pN:Nat):Int)=((1:Nat):Int):=congrArg (fun x:Nat=>(x:Int)) h2
 rw [Int.natCast_emod] at h3
 exact h3
theorem finv_zero:finv 0=0:=by
 have e:(((0:Fp).val:Int))^(pN-2)=0:=by
  rw [show pN-2=(pN-3)+1 by unfold pN;omega,Int.pow_succ]
  exact Int.mul_zero _
 unfold finv
 rw [e]
 rfl
theorem fp_one_ne:(1:Fp)≠0:=by decide
theorem mul_zero_or {a b:Fp} (h:a*b=0):a=0∨b=0:=by
 by_cases ha:a=0
 ·exact .inl ha
 ·right
  have:=mul_finv ha
  grind
theorem finv_unique {a b:Fp} (h:a*b=1):finv a=b:=by
 have ha:a≠0:=by rintro rfl;have:=fp_one_ne;grind
 have:=mul_finv ha
 grind
theorem finv_ne {a:Fp} (h:a≠0):finv a≠0:=by
 intro h0
 have:=mul_finv h
 rw [h0] at this
 have h1:=fp_one_ne
 grind
def ef (e:List Int):Fp:=fz (valI e)
def lf (k:List UInt8):Fp:=fz (leZ k % 57896044618658097711785492504343953926634992332820282019728792003956564819968)
def kf (a:Fp):List UInt8:=bN 32 a.val
theorem kf_length (a:Fp):(kf a).length=32:=bN_length 32 _
theorem keyL_kf {e:List Int} (h:okE e):keyL e=kf (ef e):=keyL_V h
theorem ef_addL {e f:List Int} (he:okE e) (hf:okE f):ef (addL e f)=ef e+ef f:=by rw [ef,fz_eq (addL_val he hf),fz_add];rfl
theorem ef_subL {e f:List Int} (he:okE e) (hf:okE f):ef (subL e f)=ef e-ef f:=by rw [ef,fz_eq (subL_val he hf),fz_sub];rfl
theorem ef_mulL {e f:List Int} (he:okE e) (hf:okE f):ef (mulL e f)=ef e*ef f:=by rw [ef,fz_eq (mulL_val he hf),fz_mul];rfl
theorem ef_invL {e:List Int} (he:okE e):ef (invL e)=finv (ef e):=by rw [ef,fz_eq (invL_val he),finv_fz];rfl
theorem ef_ofL {k:List UInt8} (hk:k.length=32):ef (ofL k)=lf k:=by rw [ef,ofL_val hk];rfl
theorem leZ_kf (a:Fp):leZ (kf a)=(a.val:Int):=by
 refine leZ_bN 32 a.val ?_
 have:=a.isLt
 unfold pN at this
 have e:(256:Nat)^32=115792089237316195423570985008687907853269984665640564039457584007913129639936:=by decide
 omega
theorem lf_kf (a:Fp):lf (kf a)=a:=by
 have:=a.isLt
 unfold pN at this
 rw [lf,leZ_kf,Int.emod_eq_of_lt (by omega) (by omega),fz_of]
def smallB (x:UInt8):List UInt8:=x::List.replicate 31 0
theorem smallB_length (x:UInt8):(smallB x).length=32:=by simp [smallB]
theorem lf_small (x:UInt8):lf (smallB x)=fz (x.toNat:Int):=by
 have:=UInt8.toNat_lt x
 rw [lf,smallB,leZ,leZ_rep]
 congr 1
 omega
def sw {α:Type} (s:Bool) (q:α × α × α × α):α × α × α × α:=if s then (q.2.1,q.1,q.2.2.2,q.2.2.1) else q
def stepC {α:Type} (add sub mul:α→α→α) (x g:α) (q:α × α × α × α):α × α × α × α :=
 (mul (mul (add q.1 q.2.2.1) (add q.1 q.2.2.1)) (mul (sub q.1 q.2.2.1) (sub q.1 q.2.2.1)),
  mul (add (mul (sub q.2.1 q.2.2.2) (add q.1 q.2.2.1)) (mul (add q.2.1 q.2.2.2) (sub q.1 q.2.2.1))) (add (mul (sub q.2.1 q.2.2.2) (add q.1 q.2.2.1)) (mul (add q.2.1 q.2.2.2) (sub q.1 q.2.2.1))),
  mul (sub (mul (add q.1 q.2.2.1) (add q.1 q.2.2.1)) (mul (sub q.1 q.2.2.1) (sub q.1 q.2.2.1))) (add (mul (add q.1 q.2.2.1) (add q.1 q.2.2.1)) (mul g (sub (mul (add q.1 q.2.2.1) (add q.1 q.2.2.1)) (mul (sub q.1 q.2.2.1) (sub q.1 q.2.2.1))))),
  mul x (mul (sub (mul (sub q.2.1 q.2.2.2) (add q.1 q.2.2.1)) (mul (add q.2.1 q.2.2.2) (sub q.1 q.2.2.1))) (sub (mul (sub q.2.1 q.2.2.2) (add q.1 q.2.2.1)) (mul (add q.2.1 q.2.2.2) (sub q.1 q.2.2.1)))))
def ladC {α:Type} (add sub mul:α→α→α) (x g:α) (s:Nat→Bool) (q:α × α × α × α):Nat→α × α × α × α
 | 0=>q
 | j+1=>sw (s (254-j)) (stepC add sub mul x g (sw (s (254-j)) (ladC add sub mul x g s q j)))
def all4 {α:Type} (P:α→Prop) (q:α × α × α × α):Prop:=P q.1∧P q.2.1∧P q.2.2.1∧P q.2.2.2
def map4 {α β:Type} (f:α→β) (q:α × α × α × α):β × β × β × β:=(f q.1,f q.2.1,f q.2.2.1,f q.2.2.2)
theorem sw_all {α:Type} {P:α→Prop} {q:α × α × α × α} (s:Bool) (h:all4 P q):all4 P (sw s q):=by
 obtain ⟨h1,h2,h3,h4⟩:=h
 cases s
 ·exact ⟨h1,h2,h3,h4⟩
 ·exact ⟨h2,h1,h4,h3⟩
theorem sw_map {α β:Type} (f:α→β) (s:Bool) (q:α × α × α × α):map4 f (sw s q)=sw s (map4 f q):=by cases s<;>rfl
theorem stepC_all {α:Type} {add sub mul:α→α→α} {P:α→Prop} (ha:∀ a b,P a→P b→P (add a b)) (hs:∀ a b,P a→P b→P (sub a b)) (hm:∀ a b,P a→P b→P (mul a b))
 {x g:α} (hx:P x) (hg:P g) {q:α × α × α × α} (h:all4 P q):all4 P (stepC add sub mul x g q):=by
 obtain ⟨h1,h2,h3,h4⟩:=h
 have e:=ha _ _ h1 h3
 have f:=hs _ _ h1 h3
 have u:=hm _ _ e e
 have v:=hm _ _ f f
 have w:=hs _ _ u v
 have y:=hm _ _ (hs _ _ h2 h4) e
 have z:=hm _ _ (ha _ _ h2 h4) f
 have p:=ha _ _ y z
 have l:=hs _ _ y z
 exact ⟨hm _ _ u v,hm _ _ p p,hm _ _ w (ha _ _ u (hm _ _ hg w)),hm _ _ hx (hm _ _ l l)⟩
theorem stepC_map {α β:Type} {add sub mul:α→α→α} {add' sub' mul':β→β→β} {P:α→Prop} {r:α→β}
 (ha:∀ a b,P a→P b→P (add a b)) (hs:∀ a b,P a→P b→P (sub a b)) (hm:∀ a b,P a→P b→P (mul a b))
 (ra:∀ a b,P a→P b→r (add a b)=add' (r a) (r b)) (rs:∀ a b,P a→P b→r (sub a b)=sub' (r a) (r b)) (rm:∀ a b,P a→P b→r (mul a b)=mul' (r a) (r b))
 {x g:α} (hx:P x) (hg:P g) {q:α × α × α × α} (h:all4 P q):map4 r (stepC add sub mul x g q)=stepC add' sub' mul' (r x) (r g) (map4 r q):=by
 obtain ⟨h1,h2,h3,h4⟩:=h
 have e:=ha _ _ h1 h3
 have f:=hs _ _ h1 h3
 have u:=hm _ _ e e
 have v:=hm _ _ f f
 have w:=hs _ _ u v
 have y:=hm _ _ (hs _ _ h2 h4) e
 have z:=hm _ _ (ha _ _ h2 h4) f
 have p:=ha _ _ y z
 have l:=hs _ _ y z
 have ll:=hm _ _ l l
 have gw:=hm _ _ hg w
 have ug:=ha _ _ u gw
 have b1:=hs _ _ h2 h4
 have b2:=ha _ _ h2 h4
 unfold map4 stepC
 simp only [ra _ _ h1 h3,rs _ _ h1 h3,rm _ _ e e,rm _ _ f f,rs _ _ u v,rs _ _ h2 h4,ra _ _ h2 h4,rm _ _ b1 e,rm _ _ b2 f,ra _ _ y z,rs _ _ y z,rm _ _ u v,rm _ _ p p,rm _ _ hg w,ra _ _ u gw,rm _ _ w ug,rm _ _ l l,rm _ _ hx ll]
theorem ladC_all {α:Type} {add sub mul:α→α→α} {P:α→Prop} (ha:∀ a b,P a→P b→P (add a b)) (hs:∀ a b,P a→P b→P (sub a b)) (hm:∀ a b,P a→P b→P (mul a b))
 {x g:α} (hx:P x) (hg:P g) (s:Nat→Bool) {q:α × α × α × α} (h:all4 P q):∀ j,all4 P (ladC add sub mul x g s q j)
 | 0=>h
 | j+1=>sw_all _ (stepC_all ha hs hm hx hg (sw_all _ (ladC_all ha hs hm hx hg s h j)))
theorem ladC_map {α β:Type} {add sub mul:α→α→α} {add' sub' mul':β→β→β} {P:α→Prop} {r:α→β}
 (ha:∀ a b,P a→P b→P (add a b)) (hs:∀ a b,P a→P b→P (sub a b)) (hm:∀ a b,P a→P b→P (mul a b))
 (ra:∀ a b,P a→P b→r (add a b)=add' (r a) (r b)) (rs:∀ a b,P a→P b→r (sub a b)=sub' (r a) (r b)) (rm:∀ a b,P a→P b→r (mul a b)=mul' (r a) (r b))
 {x g:α} (hx:P x) (hg:P g) (s:Nat→Bool) {q:α × α × α × α} (h:all4 P q):∀ j,map4 r (ladC add sub mul x g s q j)=ladC add' sub' mul' (r x) (r g) s (map4 r q) j
 | 0=>rfl
 | j+1=>by
  have h1:=sw_all (s (254-j)) (ladC_all ha hs hm hx hg s h j)
  rw [ladC,ladC,sw_map,stepC_map ha hs hm ra rs rm hx hg h1,sw_map,ladC_map ha hs hm ra rs rm hx hg s h j]
abbrev ladL (x g:List Int):=ladC addL subL mulL x g
abbrev ladF (x g:Fp):=ladC (fun a b:Fp=>a+b) (fun a b=>a-b) (fun a b=>a*b) x g
def g24:Fp:=fz 121665
def beg (x:Fp):Fp × Fp × Fp × Fp:=(1,x,0,1)
def xm (s:Nat→Bool) (x:Fp):Fp:=(ladF x g24 s (beg x) 255).1*finv (ladF x g24 s (beg x) 255).2.2.1
theorem ladL_ok {x g:List Int} (hx:okE x) (hg:okE g) (s:Nat→Bool) {q:List Int × List Int × List Int × List Int} (h:all4 okE q) (j:Nat):all4 okE (ladL x g s q j) :=
 ladC_all (P:=okE) (add:=addL) (sub:=subL) (mul:=mulL) (fun a b h1 h2=>addL_okE h1 h2) (fun a b h1 h2=>subL_okE h1 h2) (fun a b h1 h2=>mulL_okE h1 h2) hx hg s h j
theorem ladL_ef {x g:List Int} (hx:okE x) (hg:okE g) (s:Nat→Bool) {q:List Int × List Int × List Int × List Int} (h:all4 okE q) (j:Nat):map4 ef (ladL x g s q j)=ladF (ef x) (ef g) s (map4 ef q) j :=
 ladC_map (P:=okE) (fun a b=>addL_okE) (fun a b=>subL_okE) (fun a b=>mulL_okE) (fun a b=>ef_addL) (fun a b=>ef_subL) (fun a b=>ef_mulL) hx hg s h j
def sbit (k:List UInt8) (i:Nat):Bool:=if i<3∨i=255 then false else if i=254 then true else (k.getD (i / 8) 0).toNat / 2^(i % 8) % 2==1
def clampB (k:List UInt8):List UInt8:=(k.set 0 (k.getD 0 0 &&& 248)).set 31 (k.getD 31 0 &&& 127 ||| 64)
theorem clampB_length (k:List UInt8):(clampB k).length=k.length:=by simp [clampB]
theorem bit_low:∀ (x:Fin 256) (j:Fin 8),((UInt8.ofNat x.val &&& 248).toNat / 2^j.val % 2==1)=(if j.val<3 then false else (UInt8.ofNat x.val).toNat / 2^j.val % 2==1):=by decide +kernel
theorem bit_high:∀ (x:Fin 256) (j:Fin 7),((UInt8.ofNat x.val &&& 127 ||| 64).toNat / 2^j.val % 2==1)=(if j.val=6 then true else (UInt8.ofNat x.val).toNat / 2^j.val % 2==1):=by decide +kernel
theorem u8_fin (x:UInt8):∃ y:Fin 256,x=UInt8.ofNat y.val:=⟨⟨x.toNat,UInt8.toNat_lt x⟩,by simp⟩
theorem clampB_bit {k:List UInt8} (hk:k.length=32) {i:Nat} (hi:i≤254):((((clampB k).getD (i / 8) 0).toNat / 2^(i % 8) % 2==1):Bool)=sbit k i:=by
 have e31:(clampB k).getD 31 0=k.getD 31 0 &&& 127 ||| 64:=by
  unfold clampB
  rw [getD_set _ _ _ _ _ (by simp;omega),if_pos rfl]
 have e0:(clampB k).getD 0 0=k.getD 0 0 &&& 248:=by
  unfold clampB
  rw [getD_set _ _ _ _ _ (by simp;omega),if_neg (by omega),getD_set _ _ _ _ _ (by omega),if_pos rfl]
 have em:∀ j,0<j→j<31→(clampB k).getD j 0=k.getD j 0:=by
  intro j h1 h2
  unfold clampB
  rw [getD_set _ _ _ _ _ (by simp;omega),if_neg (by omega),getD_set _ _ _ _ _ (by omega),if_neg (by omega)]
 unfold sbit
 by_cases h1:i / 8=0
 ·obtain ⟨x,hx⟩:=u8_fin (k.getD 0 0)
  have hj:i % 8=i:=by omega
  have:=bit_low x ⟨i % 8,by omega⟩
  rw [h1,e0,hx,this]
  simp only
  by_cases h3:i<3
  ·rw [if_pos (by omega),if_pos (by omega)]
  ·rw [if_neg (by omega),if_neg (by omega),if_neg (by omega)]
 ·by_cases h2:i / 8=31
  ·obtain ⟨x,hx⟩:=u8_fin (k.getD 31 0)
   have:=bit_high x ⟨i % 8,by omega⟩
   rw [h2,e31,hx,this]
   simp only
   rw [if_neg (by omega:¬ (i<3∨i=255))]
   by_cases h3:i=254
   ·rw [if_pos (by omega),if_pos h3]
   ·rw [if_neg (by omega),if_neg h3]
  ·rw [em _ (by omega) (by omega),if_neg (by omega),if_neg (by omega)]
theorem sw_zero (s:Bool) {q:Fp × Fp × Fp × Fp} (h:q.1*q.2.2.1=0∧q.2.1*q.2.2.2=0):(sw s q).1*(sw s q).2.2.1=0∧(sw s q).2.1*(sw s q).2.2.2=0:=by
 cases s
 ·exact h
 ·exact ⟨h.2,h.1⟩
theorem stepC_zero (g:Fp) {q:Fp × Fp × Fp × Fp} (h:q.1*q.2.2.1=0):(stepC (fun a b:Fp=>a+b) (fun a b=>a-b) (fun a b=>a*b) 0 g q).2.2.1=0∧(stepC (fun a b:Fp=>a+b) (fun a b=>a-b) (fun a b=>a*b) 0 g q).2.2.2=0:=by
 obtain ⟨a,b,c,d⟩:=q
 simp only at h
 constructor
 ·have hw:(a+c)*(a+c)-(a-c)*(a-c)=0:=by grind
  show ((a+c)*(a+c)-(a-c)*(a-c))*_=0
  rw [hw];grind
 ·show (0:Fp)*_=0
  grind
theorem ladF_zero (g:Fp) (s:Nat→Bool):∀ j,(ladF 0 g s (beg 0) (j+1)).2.2.1=0∧(ladF 0 g s (beg 0) (j+1)).2.2.2=0:=by
 have key:∀ j,(ladF 0 g s (beg 0) j).1*(ladF 0 g s (beg 0) j).2.2.1=0∧(ladF 0 g s (beg 0) j).2.1*(ladF 0 g s (beg 0) j).2.2.2=0:=by
  intro j
  induction j with
  | zero=>exact ⟨by show (1:Fp)*0=0;decide,by show (0:Fp)*1=0;decide⟩
  | succ j ih =>
   have h1:=stepC_zero g (sw_zero (s (254-j)) ih).1
   refine sw_zero _ ⟨?_,?_⟩
   ·rw [h1.1];grind
   ·rw [h1.2];grind
 intro j
 have h1:=stepC_zero g (sw_zero (s (254-j)) (key j)).1
 unfold ladF at h1 ⊢
 rw [ladC]
 generalize s (254-j)=b at h1 ⊢
 cases b
 ·exact h1
 ·exact ⟨h1.2,h1.1⟩
theorem xm_zero (s:Nat→Bool):xm s 0=0:=by
 unfold xm
 rw [(ladF_zero g24 s 254).1,finv_zero]
 grind
end Go.PBYtfpdnpppcoomnaaGreat
namespace Go.Proofs.YtfpdnpppcoomnaaGreat
open Go.RowKit Go.PBYtfpdnpppcoomnaaGreat
theorem clamped_calls (k:List UInt8) (hk:k.length=32) (w:World) :
 Calls Tryz.prog 55 #[.agg (bys k).toArray] w fun e w'=>e=.returned (.agg (bys (clampB k)).toArray)∧Kept [] w w':=by
 have hcl:=(clampB_length k).trans hk
 have hk1:(k.set 0 (k.getD 0 0 &&& 248)).length=32:=by rw [List.length_set];exact hk
 have h31:(k.set 0 (k.getD 0 0 &&& 248)).getD 31 0=k.getD 31 0:=by rw [getD_set _ _ _ _ _ (by omega),if_neg (by omega)]
 refine enter (n:=13) (R:=fun e L=>e=.returned (.agg (bys (clampB k)).toArray)) [.agg (bys k).toArray] F55 rfl rfl rfl (St.refl w) ?_ (fun e w' L' h H=>⟨h,H.kept⟩)
 refine VC_seq<|VC_region<|l_boxA rfl rfl<|fun b1=>l_allocA zr33 rfl<|fun b2=>vl_nil<|th_n<|VC_seq<|VC_region<|vl_v (q_idxA (m:=0) U33 sz5 rfl rfl (by omega) (r:=_) (by rw [Nat.mul_one,Nat.zero_add])) rfl<|vl_v (q_load 1 U5 rfl rfl rfl (bys_at (by omega))) rfl<|vl_v (q_and_u8 (q:=UInt8.ofNat 248) rfl rfl) rfl<|vl_v (q_idxA (m:=0) U33 sz5 rfl rfl (by omega) (r:=_) (by rw [Nat.mul_one,Nat.zero_add])) rfl ?_
 refine l_stB 1 rfl rfl rfl sz5 (by omega) ?_
 simp only [List.set_cons_zero,List.set_cons_succ]
 refine vl_nil<|th_n<|VC_seq<|VC_region<|vl_v (q_idxA (m:=31) U33 sz5 rfl rfl (by omega) (r:=_) (by rw [Nat.mul_one,Nat.zero_add])) rfl ?_
 refine vl_v (q_load 1 U5 rfl rfl rfl (bys_at (by simp only [zs,zr,zm,za,zb,zu,zw,zi,zt,zd,zc,zn, *]<;>first | done | omega))) rfl ?_
 refine vl_v (q_and_u8 (q:=UInt8.ofNat 127) rfl rfl) rfl<|vl_v (q_or_u8 (q:=UInt8.ofNat 64) rfl rfl) rfl<|vl_v (q_idxA (m:=31) U33 sz5 rfl rfl (by omega) (r:=_) (by rw [Nat.mul_one,Nat.zero_add])) rfl ?_
 refine l_stB 1 rfl rfl rfl sz5 (by simp only [zs,zr,zm,za,zb,zu,zw,zi,zt,zd,zc,zn, *]<;>first | done | omega) ?_
 simp only [List.set_cons_zero,List.set_cons_succ]
 refine vl_nil<|th_n<|VC_seq ?_
 have e3:(k.set 0 (k.getD 0 0 &&& UInt8.ofNat 248)).set 31 ((k.set 0 (k.getD 0 0 &&& UInt8.ofNat 248)).getD 31 0 &&& UInt8.ofNat 127 ||| UInt8.ofNat 64)=clampB k:=by show (k.set 0 (k.getD 0 0 &&& 248)).set 31 ((k.set 0 (k.getD 0 0 &&& 248)).getD 31 0 &&& 127 ||| 64)=_;rw [h31];rfl
 rw [e3]
 refine VC_region<|vl_v (q_loads 1 U33 rfl rfl rfl sz33 (by simp only [zb,zu,zw,zi,za];omega)) rfl ?_
 refine l_storeA 0 rfl rfl rfl sz33 (by simp only [zb,zu,zw,zi,za];omega) (by with_reducible first | exact bys_one _ | exact u32s_one _ | exact u64s_one _ | exact i64s_one _ | exact n64s_one _ | assumption) (by simp only [zs,zr,zm,za,zb,zu,zw,zi,zt,zd,zc,zn, *]<;>first | done | omega) ?_
 simp only [List.set_cons_zero,List.set_cons_succ]
 refine vl_nil<|th_n<|VC_ret ?_
 refine ⟨_,resC1 0 rfl U33 rfl rfl rfl sz33 (by simp only [zb,zu,zw,zi,za];omega),?_⟩
 exact rfl
def swL (T:TypeId) (b9 b10 b12 b11:Nat) (q:List Int × List Int × List Int × List Int):List Res :=
 [.blk b9 T (i64s q.1),.blk b10 T (i64s q.2.1),.blk b12 T (i64s q.2.2.1),.blk b11 T (i64s q.2.2.2)]
theorem swap_calls {S:List Nat} {w0:World} {r101 r102 r103 r104 r105 r106 r107:Res} (s:Bool) (a b c d:List Int) (ha:a.length=16) (hb:b.length=16) (hc:c.length=16) (hd:d.length=16) (b9 b10 b12 b11:Nat) (w:World) (H:St S w0 ([.blk b9 120 (i64s a),.blk b10 120 (i64s b),.blk b12 120 (i64s c),.blk b11 120 (i64s d),r101,r102,r103,r104,r105,r106,r107]) w) :
 Calls Tryz.prog 57 #[.bool s,vP b10 0,vP b9 0,vP b11 0,vP b12 0] w fun e w'=>e=.returned (.tuple #[])∧St S w0 (swL 120 b9 b10 b12 b11 (sw s (a,b,c,d))++[r101,r102,r103,r104,r105,r106,r107]) w':=by
 refine enter (n:=11) (R:=fun e L=>e=.returned (.tuple #[])∧∀ w',St S w0 L w'→St S w0 (swL 120 b9 b10 b12 b11 (sw s (a,b,c,d))++[r101,r102,r103,r104,r105,r106,r107]) w') [.bool s,vP b10 0,vP b9 0,vP b11 0,vP b12 0] F57 rfl rfl rfl H ?_ (fun e w' L' h H=>⟨h.1,h.2 w' H⟩)
 refine VC_seq<|VC_region<|vl_v (q_move rfl) rfl<|vl_nil<|th_n<|VC_cond rfl (fun ht6=>?_) (fun ht6=>?_)
 ·skip
  subst ht6
  refine VC_drawQ 6 11 [[],[],[],[],[0,1,3],[1,4,0,3],[2,5,0,1,3,4],[3,6,0,1,2,4,5]] [[],[],[],[],[0,1,3],[0,1,3,4],[0,1,2,3,4,5],[0,1,2,3,4,5,6]] [([],[],[],[0,1,2,3,4,5,6,7,8,9,10],[]),([],[],[],[0,1,2,3,4,5,6,7,8,9,10],[]),([],[],[],[2,3,4,5,6,7,8,9,10],[]),([],[],[],[0,1,2,3,4,5,6,7,8,9,10],[]),([0,1,3],[0],[],[1,2,3,4,5,6,7,8,9,10],[0,1,3]),([0,1,3,4],[1],[],[2,3,4,5,6,7,8,9,10],[0,1,3,4])] [2,3,4,5,6,7,8,9,10] [0,1,2,3,4,5] rfl rfl (by kernel_rfl)<|qp_v (fun xs gs hx=>q_loads 1 U120 rfl rfl rfl sz120 (by simp only [zb,zu,zw,zi,za];omega))<|qp_v (fun xs gs hx=>q_loads 0 U120 rfl rfl rfl sz120 (by simp only [zb,zu,zw,zi,za];omega))<|qp_v (fun xs gs hx=>q_loads 1 U120 rfl rfl rfl sz120 (by simp only [zb,zu,zw,zi,za];omega))<|qp_v (fun xs gs hx=>q_loads 2 U120 rfl rfl rfl sz120 (by simp only [zb,zu,zw,zi,za];omega)) ?_
  refine qp_storeA (fun xs gs hx=>rfl) (fun xs gs hx=>rfl) (fun xs gs hx=>rfl) sz120 (fun xs gs hx=>by first | omega | with_reducible assumption | (simp only [zb,zu,zw,zi,za];omega) | (simp only [zs,zr,zm,za,zb,zu,zw,zi,zt,zd,zc,zn, *]<;>first | done | omega) | rfl) (fun xs gs hx=>by first | (with_reducible first | exact bys_one _ | exact u32s_one _ | exact u64s_one _ | exact i64s_one _ | exact n64s_one _ | assumption) | exact bys_one _ | exact u32s_one _ | exact u64s_one _ | exact i64s_one _ | exact one_all rfl | (refine app_one ?_ ?_<;>first | exact bys_one _ | exact one_all rfl | (simp;done))) (fun xs gs hx=>by first | omega | with_reducible assumption | (simp only [zb,zu,zw,zi,za];omega) | (simp only [zs,zr,zm,za,zb,zu,zw,zi,zt,zd,zc,zn, *]<;>first | done | omega) | rfl) ?_
  refine qp_storeA (fun xs gs hx=>rfl) (fun xs gs hx=>rfl) (fun xs gs hx=>rfl) sz120 (fun xs gs hx=>by first | omega | with_reducible assumption | (simp only [zb,zu,zw,zi,za];omega) | (simp only [zs,zr,zm,za,zb,zu,zw,zi,zt,zd,zc,zn, *]<;>first | done | omega) | rfl) (fun xs gs hx=>by first | (with_reducible first | exact bys_one _ | exact u32s_one _ | exact u64s_one _ | exact i64s_one _ | exact n64s_one _ | assumption) | exact bys_one _ | exact u32s_one _ | exact u64s_one _ | exact i64s_one _ | exact one_all rfl | (refine app_one ?_ ?_<;>first | exact bys_one _ | exact one_all rfl | (simp;done))) (fun xs gs hx=>by first | omega | with_reducible assumption | (simp only [zb,zu,zw,zi,za];omega) | (simp only [zs,zr,zm,za,zb,zu,zw,zi,zt,zd,zc,zn, *]<;>first | done | omega) | rfl) ?_
  refine qp_end<|fun xs gs hx=>?_
  obtain ⟨_,_,_⟩:=hx
  simp only [selI,ownsA,List.contains_cons,List.contains_nil,Nat.reduceBEq,Nat.reduceAdd,Bool.or_false,Bool.or_true,Bool.false_or,Bool.true_or,mask,nRow,nBlk,nRowT,tupAt_0,tupAt_1,List.append_assoc,List.nil_append,List.append_nil,List.cons_append,List.singleton_append]
  refine VL.keep (kp [0,1,2,3,4,6,9,10] rfl)<|l_storeA 0 rfl rfl rfl sz120 (by simp only [zb,zu,zw,zi,za];omega) (by with_reducible first | exact bys_one _ | exact u32s_one _ | exact u64s_one _ | exact i64s_one _ | exact n64s_one _ | assumption) (by simp only [zb,zu,zw,zi,za];omega) ?_
  simp only [List.set_cons_zero,List.set_cons_succ]
  refine l_storeA 1 rfl rfl rfl sz120 (by simp only [zb,zu,zw,zi,za];omega) (by with_reducible first | exact bys_one _ | exact u32s_one _ | exact u64s_one _ | exact i64s_one _ | exact n64s_one _ | assumption) (by simp only [zb,zu,zw,zi,za];omega) ?_
  simp only [List.set_cons_zero,List.set_cons_succ]
  refine vl_nil<|qn_n<|⟨_,res0 rfl,?_⟩
  first | exact ⟨rfl,fun w' H'=>St.pick H' (ks:=[9,10,0,1,2,3,4,5,6,7,8]) (by decide) rfl⟩ | exact ⟨rfl,fun w' H'=>H'⟩
 ·skip
  subst ht6
  refine VC_skip<|⟨_,res0 rfl,?_⟩
  first | exact ⟨rfl,fun w' H'=>St.pick H' (ks:=[9,10,0,1,2,3,4,5,6,7,8]) (by decide) rfl⟩ | exact ⟨rfl,fun w' H'=>H'⟩
end Go.Proofs.YtfpdnpppcoomnaaGreat
namespace Go.PBYtfpdnpppcoomnaaGreat
open Go Go.RowKit
theorem zero_okE:okE (List.replicate 16 0):=dig_okE ⟨rfl,fun j hj=>by rw [rep0];omega⟩
theorem ef_zero:ef (List.replicate 16 0)=0:=by rw [ef,valI_rep];rfl
def gK:List UInt8:=65::219::1::List.replicate 29 0
theorem gK_length:gK.length=32:=by simp [gK]
theorem gK_lf:lf gK=g24:=by decide +kernel
theorem one_lf:lf (smallB 1)=1:=by decide +kernel
def q0L (x:List Int):List Int × List Int × List Int × List Int:=(ofL (smallB 1),x,List.replicate 16 0,ofL (smallB 1))
theorem all4_mk {α:Type} {P:α→Prop} {a b c d:α} (h1:P a) (h2:P b) (h3:P c) (h4:P d):all4 P (a,b,c,d):=⟨h1,h2,h3,h4⟩
theorem q0L_ok {x:List Int} (hx:okE x):all4 okE (q0L x):=all4_mk (ofL_okE (smallB_length 1)) hx zero_okE (ofL_okE (smallB_length 1))
theorem mult_fin (k p:List UInt8) (hp:p.length=32):keyL (mulL (ladL (ofL p) (ofL gK) (sbit k) (q0L (ofL p)) 255).1 (invL (ladL (ofL p) (ofL gK) (sbit k) (q0L (ofL p)) 255).2.2.1))=kf (xm (sbit k) (lf p)):=by
 have hx:=ofL_okE hp
 have hg:=ofL_okE gK_length
 have hq:=q0L_ok hx
 have ho:=ladL_ok hx hg (sbit k) hq 255
 have he:=ladL_ef hx hg (sbit k) hq 255
 rw [ef_ofL hp,ef_ofL gK_length,gK_lf,show map4 ef (q0L (ofL p))=beg (lf p) by unfold map4 q0L beg;simp only [ef_ofL hp,ef_ofL (smallB_length 1),one_lf,ef_zero]] at he
 obtain ⟨o1,o2,o3,o4⟩:=ho
 have h1:=congrArg (fun q:Fp × Fp × Fp × Fp=>q.1) he
 have h3:=congrArg (fun q:Fp × Fp × Fp × Fp=>q.2.2.1) he
 simp only [map4] at h1 h3
 have oi:=invL_okE o3
 rw [keyL_kf (mulL_okE o1 oi),ef_mulL o1 oi,ef_invL o3,h1,h3]
 rfl
theorem bit_of (x:UInt8) (m:Nat) (hm:m<8):decide (((UInt8.ofNat (x.toNat / 2^(min m 8)) &&& 1).toNat:Int)=1)=(x.toNat / 2^m % 2==1):=by
 have h1:=UInt8.toNat_lt x
 have h2:x.toNat / 2^m<256:=Nat.lt_of_le_of_lt (Nat.div_le_self _ _) h1
 rw [Nat.min_eq_left (by omega),UInt8.toNat_and,UInt8.toNat_ofNat_of_lt' h2,show (1:UInt8).toNat=1 from rfl,Nat.and_one_is_mod]
 rw [Bool.eq_iff_iff,decide_eq_true_iff,beq_iff_eq]
 omega
end Go.PBYtfpdnpppcoomnaaGreat

