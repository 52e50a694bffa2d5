/- Words and laws that the proofs of this seat share, part 4 of 10. No condition. -/
import Derived.Test.YtfpdnpppcoomnaaGreatQ40tc
set_option linter.unusedVariables false
set_option linter.unusedSimpArgs false
set_option linter.defProp false
set_option maxRecDepth 100000
set_option maxHeartbeats 16000000
namespace Go.Proofs.YtfpdnpppcoomnaaGreat
open Go.RowKit Go.PBYtfpdnpppcoomnaaGreat
def strs (l:List (List UInt8)):List Value:=l.map fun p=>.string ⟨p.toArray⟩
theorem strs_length (l:List (List UInt8)):(strs l).length=l.length:=by simp [strs]
theorem strs_at {l:List (List UInt8)} {j:Nat} (h:j<l.length):(strs l)[j]?=some (.string ⟨(l.getD j []).toArray⟩):=by simp [strs,h]
def keysB (k:List UInt8) (ps:List (List UInt8)):List UInt8:=ps.flatMap fun p=>spread k p 32
theorem keysB_take {k:List UInt8} {ps:List (List UInt8)} {j:Nat} (h:j<ps.length):keysB k (ps.take j)++spread k (ps.getD j []) 32=keysB k (ps.take (j+1)):=by
 have e:ps.getD j []=ps[j]:=by simp [h]
 rw [List.take_succ_eq_append_getElem h,e]
 unfold keysB
 rw [List.flatMap_append,List.flatMap_cons,List.flatMap_nil,List.append_nil]
theorem spread32_calls (k p:List UInt8) (hk:k.length=32) (hp:p.length≤1000) (w:World) :
 Calls Tryz.prog 114 #[.agg (bys k).toArray,.string ⟨p.toArray⟩,vN 32] w fun e w'=>∃ A c,e=.returned (.tuple #[.slice A 32 32,.int .i64 0])∧St [] w [.row 5 1 (.slice A 32 c) 32 (bys (spread k p 32))] w' :=
 (spread_calls k p 32 hk hp (by omega) w).mono fun e w' h=>by
  obtain ⟨A,c,h1,h2⟩:=h
  have e:sprOut k p ((32+31) / 32)=spread k p 32:=by rw [spread,List.take_of_length_le (by rw [sprOut_length];omega)]
  rw [e,show 32*((32+31) / 32)=32 from rfl] at h2
  exact ⟨A,c,h1,h2⟩
theorem keys_calls (k:List UInt8) (ps:List (List UInt8)) (A:Option Addr) (n c:Nat) (hk:k.length=32) (hn:n=ps.length) (hl:ps.length≤1000) (hps:∀ p∈ps,p.length≤1000) (w:World) (hA:SlAt w A (strs ps)) (hc:n≤c) :
 Calls Tryz.prog 105 #[.agg (bys k).toArray,.slice A n c] w fun e w'=>∃ v,e=.returned v∧St [] w [.row 33 32 v n (bys (keysB k ps))] w':=by
 subst hn
 refine enter (n:=30) (R:=fun e L=>∃ v,e=.returned v∧∀ w',St [] w L w'→St [] w [.row 33 32 v ps.length (bys (keysB k ps))] w') [.agg (bys k).toArray,.slice A ps.length c] F105 rfl rfl rfl (St.refl w) ?_ (fun e w' L' h H=>by obtain ⟨v,h1,h2⟩:=h;exact ⟨v,h1,h2 w' H⟩)
 refine VC_seq<|VC_region<|l_boxA rfl rfl<|fun b2=>vl_v (q_assign rfl) rfl<|vl_nil<|th_n<|VC_seq<|VC_region<|vl_v (q_assign rfl) rfl<|vl_nil<|th_n<|VC_seq ?_
 refine VC_seq<|VC_nilRow 33 32<|VC_region<|vl_v (q_move rfl) rfl<|vl_v (q_lenS U220 rfl) rfl<|vl_v (q_move rfl) rfl<|vl_nil<|th_n<|VC_block<|VC_loop (ι:=Nat × Option Addr × Nat) (fun x=>x.1≤ps.length∧x.1≤x.2.2) (fun x=>[(2,vP b2 0),(5,.slice x.2.1 x.1 x.2.2),(10,.slice A ps.length c),(11,vN ps.length),(12,vN x.1)]) (fun x=>[.row 33 32 (.slice x.2.1 x.1 x.2.2) x.1 (bys (keysB k (ps.take x.1))),.blk b2 33 (bys k)]) (fun x=>ps.length-x.1) (0,none,0) (⟨Nat.zero_le _,Nat.zero_le _⟩) (kp [2,5,10,11,12] rfl) (fun w H=>H) ?_
 rintro ⟨j,A5,c5⟩ hp
 obtain ⟨hp1,hp2⟩:=hp
 have hp1:j≤ps.length:=hp1
 have hp2:j≤c5:=hp2
 refine VC_seq<|VC_region<|vl_v (q_lss_n U3 rfl rfl) rfl<|vl_nil<|th_n<|VC_seq<|VC_cond rfl (fun ht13=>?_) (fun ht13=>?_)
 ·skip
  have ht13:=of_decide_eq_true ht13
  refine VC_skip<|th_n<|VC_seq<|VC_block<|VC_seq<|VC_region ?_
  have ht13:j<ps.length:=ht13
  refine vl_v (q_idxRd (m:=j) U220 sz9 rfl rfl ht13 (Reads.old hA) (by rw [strs_length];exact ht13)) rfl<|vl_v (q_loadRd U9 rfl rfl (Reads.old hA) (strs_at ht13)) rfl<|vl_v (q_assign rfl) rfl<|vl_nil<|th_n<|VC_seq<|VC_region ?_
  have hsl:=spread_length k (ps.getD j []) 32
  refine vl_v (q_loads 1 U33 rfl rfl rfl sz33 (by simp only [zb,zu,zw,zi,za];omega)) rfl<|vl_v (q_move rfl) rfl ?_
  refine l_call (F:=fun v L'=>∃ A8 c8,v=.tuple #[.slice A8 32 32,.int .i64 0]∧L'=[.row 5 1 (.slice A8 32 c8) 32 (bys (spread k (ps.getD j []) 32)),.row 33 32 (.slice A5 j c5) j (bys (keysB k (ps.take j))),.blk b2 33 (bys k)]) F114 rfl rfl rfl (fun w1 H1=>(spread32_calls k (ps.getD j []) hk (hps _ (by rw [show ps.getD j []=ps[j] by simp [ht13]];exact List.getElem_mem _)) w1).mono fun e w' h=>?_) rfl ?_
  ·obtain ⟨A8,c8,h1,h2⟩:=h
   exact ⟨_,_,h1,⟨A8,c8,rfl,rfl⟩,((H1.join h2).perm List.perm_append_comm).pick (ks:=[0,1,2]) (by decide) rfl⟩
  rintro v L' ⟨A8,c8,rfl,rfl⟩
  refine vl_v (q_move rfl) rfl<|vl_v (q_ext rfl rfl) rfl<|vl_v (q_ext rfl rfl) rfl<|vl_v (q_assign rfl) rfl<|vl_v (q_assign rfl) rfl<|vl_nil<|th_n<|VC_rowBlk (by omega)<|fun bA more eA=>?_
  subst eA
  refine VC_region<|vl_v (q_move rfl) rfl<|vl_v (q_move rfl) rfl<|vl_v (q_s2a U33 rfl (by omega)) rfl<|vl_v (q_loadsR (vs:=bys (spread k (ps.getD j []) 32)) U33 rfl (sz33.trans (congrArg some (by rw [bys_length,hsl]))) rfl (Reads.blkTake 0 0 32 rfl (by rw [List.drop_zero,List.take_append_of_le_length (by rw [bys_length];omega),List.take_of_length_le (by rw [bys_length];omega)]))) rfl<|l_litG [bys (spread k (ps.getD j []) 32)] U208 in33 (by decide) (by decide) rfl rfl rfl (by intro v hv;rw [List.mem_singleton.1 hv,bys_length];exact hsl) rfl<|fun b26=>?_
  simp only [List.flatten_cons,List.flatten_nil,List.append_nil]
  refine l_append 2 rfl rfl rfl U208 U208 in33 rfl (by decide) (Reads.row 0 rfl) (by simp only [zb,zu,zw,zi,za];omega) (by with_reducible first | exact bys_one _ | exact u32s_one _ | exact u64s_one _ | exact i64s_one _ | exact n64s_one _ | assumption) (by omega) (by omega) rfl<|fun A27 c27 hc27=>?_
  simp only [List.set_cons_zero,List.set_cons_succ,← bys_append,← u32s_append,← u64s_append,← i64s_append,List.nil_append,Nat.zero_add]
  rw [keysB_take ht13]
  refine vl_v (q_assign rfl) rfl<|vl_nil<|bl_n<|th_n<|VC_region<|vl_v (q_add_n (q:=1) rfl rfl (by omega)) rfl<|vl_v (q_move rfl) rfl<|vl_nil<|th_n ?_
  refine ⟨(j+1,A27,c27),⟨by show j+1≤ps.length;omega,hc27⟩,by show ps.length-(j+1)<ps.length-j;omega,(kp [2,5,10,11,12] rfl),fun w H=>St.pick H (ks:=[2,3]) (by decide) rfl⟩
 ·skip
  have ht13:=of_decide_eq_false ht13
  obtain rfl:j=ps.length:=by omega
  rw [List.take_length]
  refine VC_exit<|(th_x (th_x (bl_xs (th_n ?_))))
  refine VC_seq<|VC_region<|vl_v (q_move rfl) rfl<|vl_v (q_assign rfl) rfl<|vl_nil<|th_n<|VC_ret<|⟨_,res1 rfl rfl,?_⟩
  exact ⟨_,rfl,fun w' H'=>St.pick H' (ks:=[0]) (by decide) rfl⟩
end Go.Proofs.YtfpdnpppcoomnaaGreat
namespace Go.PBYtfpdnpppcoomnaaGreat
open Go Go.RowKit
def flatFields (P:Program) (f:TypeId→Option (List IntKind)):List Field→Nat→Option (List IntKind)
 | [],_=>some []
 | x::r,off =>
  match f x.type with
  | none=>none
  | some ks=>if x.offset=off∧P.cellsOf x.type=ks.length∧(x.name != "_")=true then (flatFields P f r (off+ks.length)).map (ks++·) else none
def flatAt (P:Program):Nat→TypeId→Option (List IntKind)
 | 0,_=>none
 | d+1,t =>
  match P.underlying t with
  | some (.int q)=>some [q]
  | some (.array n e)=>match flatAt P d e with
   | none=>none
   | some ks=>if P.cellsOf e=ks.length∧P.cellsOf t=n*ks.length then some (List.replicate n ks).flatten else none
  | some (.struct fs)=>match flatFields P (flatAt P d) fs.toList 0 with
   | none=>none
   | some ks=>if P.cellsOf t=ks.length then some ks else none
  | _=>none
def Fits (cs:List Value) (ks:List IntKind):Prop:=cs.length=ks.length∧∀ (i:Nat) q,ks[i]?=some q→∃ n,cs[i]?=some (.int q n)∧(Lit.int q n).wf=true
theorem Fits.append {a b:List Value} {k l:List IntKind} (h:Fits a k) (g:Fits b l):Fits (a++b) (k++l):=by
 refine ⟨by simp [h.1,g.1],fun i q hi=>?_⟩
 by_cases hik:i<k.length
 ·rw [List.getElem?_append_left hik] at hi
  rw [List.getElem?_append_left (by rw [h.1];exact hik)]
  exact h.2 i q hi
 ·rw [List.getElem?_append_right (by omega)] at hi
  rw [List.getElem?_append_right (by rw [h.1];omega),h.1]
  exact g.2 _ q hi
theorem Fits.part {cs:List Value} {p k r:List IntKind} (h:Fits cs (p++k++r)):Fits ((cs.drop p.length).take k.length) k:=by
 have h1:=h.1
 simp only [List.length_append] at h1
 refine ⟨by simp;omega,fun i q hi=>?_⟩
 have hik:=(List.getElem?_eq_some_iff.1 hi).1
 rw [List.getElem?_take,if_pos hik,List.getElem?_drop]
 refine h.2 (p.length+i) q ?_
 rw [List.append_assoc,List.getElem?_append_right (by omega),List.getElem?_append_left (by omega)]
 rw [← hi]
 congr 1
 omega
theorem replicate_part (n:Nat) (k:List IntKind) (i:Nat) (hi:i<n):(List.replicate n k).flatten=(List.replicate i k).flatten++k++(List.replicate (n-1-i) k).flatten:=by
 obtain ⟨r,rfl⟩:∃ r,n=i+(1+r):=⟨n-1-i,by omega⟩
 rw [show i+(1+r)-1-i=r by omega,← List.replicate_append_replicate,← List.replicate_append_replicate,List.flatten_append,List.flatten_append]
 simp
theorem flatten_rep_length (i:Nat) (k:List IntKind):((List.replicate i k).flatten).length=i*k.length:=by simp
theorem mapM_some {α β:Type} (f:α→Option β):∀ (L:List α),(∀ x∈L,∃ y,f x=some y)→∃ ys,L.mapM f=some ys
 | [],_=>⟨[],rfl⟩
 | x::L,h=>by
  obtain ⟨y,hy⟩:=h x (by simp)
  obtain ⟨ys,hys⟩:=mapM_some f L (fun z hz=>h z (by simp [hz]))
  exact ⟨y::ys,by simp [List.mapM_cons,hy,hys]⟩
theorem flatFields_at {P:Program} {f:TypeId→Option (List IntKind)}:∀ (fs:List Field) (off:Nat) (ks:List IntKind),flatFields P f fs off=some ks→∀ x∈fs,∃ p k r,ks=p++k++r∧f x.type=some k∧x.offset=off+p.length∧P.cellsOf x.type=k.length∧(x.name != "_")=true
 | [],_,_,_,x,hx=>by simp at hx
 | y::fs,off,ks,h,x,hx=>by
  simp only [flatFields] at h
  cases hf:f y.type with
  | none=>rw [hf] at h;simp at h
  | some k0 =>
   rw [hf] at h
   simp only at h
   split at h
   ·rename_i hc
    cases hr:flatFields P f fs (off+k0.length) with
    | none=>rw [hr] at h;simp at h
    | some kr =>
     rw [hr] at h
     simp only [Option.map_some,Option.some.injEq] at h
     subst h
     rcases List.mem_cons.1 hx with rfl | hx
     ·exact ⟨[],k0,kr,by simp,hf,by simpa using hc.1,hc.2.1,hc.2.2⟩
     ·obtain ⟨p,k,r,e,h1,h2,h3⟩:=flatFields_at fs _ kr hr x hx
      subst e
      exact ⟨k0++p,k,r,by simp,h1,by simp [h2];omega,h3⟩
   ·simp at h
theorem keyLits_flat {P:Program}:∀ (d:Nat) (t:TypeId) (ks:List IntKind) (cs:List Value),flatAt P d t=some ks→Fits cs ks→∃ ls,P.keyLits d t cs=some ls
 | 0,_,_,_,h,_=>by simp [flatAt] at h
 | d+1,t,ks,cs,h,hf=>by
  unfold flatAt at h
  unfold Program.keyLits
  cases hu:P.underlying t with
  | none=>rw [hu] at h;simp at h
  | some desc =>
   rw [hu] at h
   cases desc with
   | int q =>
    simp only [Option.some.injEq] at h
    subst h
    obtain ⟨n,h1,h2⟩:=hf.2 0 q rfl
    have hl:=hf.1
    obtain ⟨c,rfl⟩:∃ c,cs=[c]:=by
     match cs,hl with
     | [c],_=>exact ⟨c,rfl⟩
    simp at h1
    subst h1
    exact ⟨[.int q n],by simp [h2]⟩
   | array n e =>
    simp only at h
    cases hk:flatAt P d e with
    | none=>rw [hk] at h;simp at h
    | some k =>
     rw [hk] at h
     simp only at h
     split at h
     ·rename_i hc
      simp only [Option.some.injEq] at h
      subst h
      have hlen:cs.length=P.cellsOf t:=by rw [hf.1,flatten_rep_length,hc.2]
      simp only [hlen,if_true]
      obtain ⟨ys,hys⟩:=mapM_some (fun i=>P.keyLits d e ((cs.drop (i*P.cellsOf e)).take (P.cellsOf e))) (List.range n) (fun i hi=>by
       have hi':=List.mem_range.1 hi
       rw [replicate_part n k i hi'] at hf
       have:=hf.part
       rw [flatten_rep_length] at this
       rw [hc.1]
       exact keyLits_flat d e k _ hk this)
      exact ⟨ys.flatten,by rw [hys];rfl⟩
     ·simp at h
   | struct fs =>
    simp only at h
    cases hk:flatFields P (flatAt P d) fs.toList 0 with
    | none=>rw [hk] at h;simp at h
    | some k =>
     rw [hk] at h
     simp only at h
     split at h
     ·rename_i hc
      simp only [Option.some.injEq] at h
      subst h
      have hlen:cs.length=P.cellsOf t:=by rw [hf.1,hc]
      have hat:=flatFields_at fs.toList 0 k hk
      have hnm:fs.all (fun x=>x.name != "_")=true:=by
       rw [← Array.all_toList,List.all_eq_true]
       intro x hx
       obtain ⟨p,k1,r,e,h1,h2,h3,h4⟩:=hat x hx
       exact h4
      obtain ⟨ys,hys⟩:=mapM_some (fun x:Field=>P.keyLits d x.type ((cs.drop x.offset).take (P.cellsOf x.type))) fs.toList (fun x hx=>by
       obtain ⟨p,k1,r,e,h1,h2,h3,h4⟩:=hat x hx
       subst e
       have:=hf.part
       rw [h2,h3,Nat.zero_add]
       exact keyLits_flat d x.type k1 _ h1 this)
      refine ⟨ys.flatten,?_⟩
      simp only [hlen,true_and]
      rw [if_pos hnm,hys]
      rfl
     ·simp at h
   | _=>simp at h
structure Flat (P:Program) (k:TypeId) (ks:List IntKind):Prop where
 law:WideMaps.KeyLaw P k
 calm:P.eqGuardType P.depth k=false
 key:∀ cs,Fits cs ks→∃ l,keyOf P k (.agg cs.toArray)=some l
 eq:∀ (w:World) {x y:Value} {lx ly:Lit},keyOf P k x=some lx→keyOf P k y=some ly→∃ r:Bool,(Op.equal k x y).run P w=.ok r w∧(r=true↔lx=ly)
theorem flat_of {P:Program} {k:TypeId} {ks:List IntKind} {m:Nat} (hl:laidOutB P=true) (hm:m+1≤10000) (hrow:k<P.types.size) (hk:P.keyTypeAt m k=true) (hkt:P.keyType k=true)
 (hwide:(match P.underlying k with | some (.array _ _) | some (.struct _)=>true | _=>false)=true) (hf:flatAt P (P.types.size+1) k=some ks) (hc:P.cellsOf k=ks.length) (hg:P.eqGuardType P.depth k=false):Flat P k ks where
 calm:=hg
 law:=deep_law_laid hl hm hrow hk hwide
 key:=fun cs h=>by
  obtain ⟨ls,hls⟩:=keyLits_flat _ k ks cs hf h
  have hform:(Value.agg cs.toArray).formed P k=true:=by
   unfold Value.formed
   cases hu:P.underlying k with
   | none=>rw [hu] at hwide;simp at hwide
   | some d =>
    rw [hu] at hwide
    cases d<;>simp at hwide<;>simp [h.1,hc]
  unfold keyOf
  cases hu:P.underlying k with
  | none=>rw [hu] at hwide;simp at hwide
  | some d =>
   rw [hu] at hwide
   cases d<;>simp at hwide<;>simp [hkt,hform,Value.cells,hls]
 eq:=fun w {x y lx ly} hx hy=>run_equal_deep w (by omega) hk hwide hx hy
theorem Flat.equal {P:Program} {k:TypeId} {ks:List IntKind} (F:Flat P k ks) (w:World) {xs ys:List Value} (hx:Fits xs ks) (hy:Fits ys ks) :
 ∃ r:Bool,(Op.equal k (.agg xs.toArray) (.agg ys.toArray)).run P w=.ok r w∧(r=true↔xs=ys):=by
 obtain ⟨lx,h1⟩:=F.key xs hx
 obtain ⟨ly,h2⟩:=F.key ys hy
 obtain ⟨r,hr,hi⟩:=F.eq w h1 h2
 refine ⟨r,hr,hi.trans ⟨?_,?_⟩⟩
 ·rintro rfl
  have:=F.law.inj h1 h2
  simpa using this
 ·rintro rfl
  rw [h1] at h2
  exact Option.some.inj h2
theorem run_eqlA {P:Program} {k:TypeId} {ks:List IntKind} (F:Flat P k ks) (w:World) {xs ys:List Value} (hx:Fits xs ks) (hy:Fits ys ks) (r:Bool) (hr:r=true↔xs=ys) :
 (binOp .eql k (.agg xs.toArray) (.agg ys.toArray)).run P w=.ok (.bool r) w:=by
 obtain ⟨r',h1,h2⟩:=F.equal w hx hy
 have:r'=r:=by rw [Bool.eq_iff_iff,h2,hr]
 subst this
 have h3:(Op.equalIn 10000 k (.agg xs.toArray) (.agg ys.toArray)).run P w=.ok r' w:=h1
 rw [run_eql_struct,h3]
 rfl
theorem run_neqA {P:Program} {k:TypeId} {ks:List IntKind} (F:Flat P k ks) (w:World) {xs ys:List Value} (hx:Fits xs ks) (hy:Fits ys ks) (r:Bool) (hr:r=true↔xs=ys) :
 (binOp .neq k (.agg xs.toArray) (.agg ys.toArray)).run P w=.ok (.bool (!r)) w:=by
 obtain ⟨r',h1,h2⟩:=F.equal w hx hy
 have:r'=r:=by rw [Bool.eq_iff_iff,h2,hr]
 subst this
 have h3:(Op.equalIn 10000 k (.agg xs.toArray) (.agg ys.toArray)).run P w=.ok r' w:=h1
 rw [run_neq_struct,h3]
 rfl
section
variable {P : Program} {w : World} {Q : Exit → Act → World → Prop} {a : Act} {dst : Option Tmp} {ty : TypeId} {pos : String} {af : Array Edge} {g : Option (Nat × Bool)}
theorem opw_eqA {K:Act→World→Prop} {t t2:TypeId} {x y:Operand} {ks:List IntKind} {xs ys:List Value} {r:Bool} (F:Flat P t ks) (hx:a.eval x=.agg xs.toArray) (hy:a.eval y=.agg ys.toArray) (fx:Fits xs ks) (fy:Fits ys ks) (hr:r=true↔xs=ys)
 (h:K (a.put dst (.bool r)) w):Oper.wp P { dst,op:=.binOp .eql t x y t2,type:=ty,pos,after:=af,guard:=g } a w K Q :=
 opw_val (v:=.bool r) (w':=w) (by simp [execOp,hx,hy,run_eqGuard_agg _ _ _ _ _ _ _ F.calm,run_eqlA F w fx fy r hr,Result.andThen]) h
theorem opw_neA {K:Act→World→Prop} {t t2:TypeId} {x y:Operand} {ks:List IntKind} {xs ys:List Value} {r:Bool} (F:Flat P t ks) (hx:a.eval x=.agg xs.toArray) (hy:a.eval y=.agg ys.toArray) (fx:Fits xs ks) (fy:Fits ys ks) (hr:r=true↔xs=ys)
 (h:K (a.put dst (.bool (!r))) w):Oper.wp P { dst,op:=.binOp .neq t x y t2,type:=ty,pos,after:=af,guard:=g } a w K Q :=
 opw_val (v:=.bool (!r)) (w':=w) (by simp [execOp,hx,hy,run_eqGuard_agg _ _ _ _ _ _ _ F.calm,run_neqA F w fx fy r hr,Result.andThen]) h
end
theorem fits_bys (l:List UInt8):Fits (bys l) (List.replicate l.length .u8):=by
 refine ⟨by simp [bys],fun i q hi=>?_⟩
 have hil:=(List.getElem?_eq_some_iff.1 hi).1
 rw [List.length_replicate] at hil
 have:q=.u8:=by
  rw [List.getElem?_replicate,if_pos hil] at hi
  exact (Option.some.inj hi).symm
 subst this
 refine ⟨(l[i].toNat:Int),by rw [bys_get,List.getElem?_eq_getElem hil];rfl,?_⟩
 have:=l[i].toNat_lt
 exact WalkArith.wf_u8 (by omega)
theorem fits_int {k:IntKind} {n:Int} (h:(Lit.int k n).wf=true):Fits [.int k n] [k] :=
 ⟨rfl,fun i q hi=>by
  cases i with
  | zero=>simp at hi;subst hi;exact ⟨n,rfl,h⟩
  | succ i=>simp at hi⟩
end Go.PBYtfpdnpppcoomnaaGreat
namespace Go.PBYtfpdnpppcoomnaaGreat
open Go Go.RowKit Go.ChangeShapes Go.WideShapes Go.ChangeAt
def BsArg (w:World) (v:Value) (l:List UInt8):Prop:=∃ A c,v=.slice A l.length c∧l.length≤c∧c≤9223372036854775807∧SlAt w A (bys l)
def RsArg (w:World) (v:Value) (ls:List (List UInt8)):Prop :=
 ∃ (A:Option Addr) (c:Nat) (vs:List Value),v=.slice A ls.length c∧ls.length≤c∧c≤9223372036854775807∧SlAt w A vs∧vs.length=ls.length ∧
  ∀ (i:Nat) (u:Value) (l:List UInt8),vs[i]?=some u→ls[i]?=some l→BsArg w u l
def toB (zs:List Int):List UInt8:=zs.map fun z=>UInt8.ofNat z.toNat
theorem bys_toB {zs:List Int} (h:∀ n∈zs,(Lit.int .u8 n).wf=true):bys (toB zs)=zs.map fun z=>.int .u8 z:=by
 unfold bys toB
 rw [List.map_map]
 apply List.map_congr_left
 intro z hz
 have hz':=h z hz
 simp only [Lit.wf,Bool.and_eq_true,decide_eq_true_eq] at hz'
 have h1:IntKind.u8.min=0:=rfl
 have h2:IntKind.u8.max=255:=rfl
 rw [h1,h2] at hz'
 simp only [Function.comp]
 congr 1
 have:z.toNat<256:=by omega
 rw [UInt8.toNat_ofNat_of_lt' this]
 omega
theorem toB_length (zs:List Int):(toB zs).length=zs.length:=by simp [toB]
theorem sl_ints {w:World} {a:Addr} {zs:List Int} (h:∀ i,i<zs.length→w.cell? (a.add i)=some (.int .u8 (zs.getD i 0))) (hw:∀ n∈zs,(Lit.int .u8 n).wf=true) (n:Nat):SlAt w (some a) (bys (toB (zs.take n))):=by
 intro j v hv
 rw [bys_toB (fun m hm=>hw m (List.mem_of_mem_take hm)),List.getElem?_map] at hv
 cases hz:(zs.take n)[j]? with
 | none=>rw [hz] at hv;simp at hv
 | some z =>
  rw [hz] at hv
  simp only [Option.map_some,Option.some.injEq] at hv
  subst hv
  have hj:j<(zs.take n).length:=(List.getElem?_eq_some_iff.1 hz).1
  have hj':j<zs.length:=by rw [List.length_take] at hj;omega
  refine ⟨a,rfl,?_⟩
  rw [h j hj']
  rw [List.getElem?_take] at hz
  split at hz
  ·rw [List.getD_eq_getElem?_getD,hz];rfl
  ·simp at hz
section
variable {H : Type} {enc : TypeId × Value → H} {P : Program} {w : World} {r : Reach} {b0 : Nat}
theorem open_bytes {t e:TypeId} {v:Value} {d:DataW H} {p:List MemPlace} (ht:P.underlying t=some (.slice e)) (he:P.underlying e=some (.int .u8)) (hc:P.cellsOf e=1)
 (hv:Value.okWide P w r b0 t v) (h:DataW.Trod enc P w 0 (fun _=>true) true t v d p):∃ l,BsArg w v l:=by
 obtain ⟨a,len,cap,rfl⟩:=okWide_slice ht hv
 obtain ⟨fuel,hf⟩:=h
 rcases open_ints ht he hc hf with ⟨hcs,_⟩ | ⟨x,l,c,zs,hcs,_,hl,hm,hz,_,hcell,hwz⟩
 ·simp [Value.cells] at hcs
  obtain ⟨rfl,rfl,rfl⟩:=hcs
  exact ⟨[],none,0,rfl,Nat.le_refl _,by omega,SlAt.nil _ _⟩
 ·simp [Value.cells] at hcs
  obtain ⟨rfl,rfl,rfl⟩:=hcs
  simp only [if_true] at hz
  have e:(toB (zs.take len)).length=len:=by rw [toB_length,List.length_take];omega
  refine ⟨toB (zs.take len),some x,cap,by rw [e],by rw [e];exact hl,by simpa [maxLen] using hm,sl_ints hcell hwz len⟩
theorem open_rows8 {t e q:TypeId} {v:Value} {d:DataW H} {p:List MemPlace} (ht:P.underlying t=some (.slice e)) (he:P.underlying e=some (.slice q)) (hq:P.underlying q=some (.int .u8))
 (ce:P.cellsOf e=1) (cq:P.cellsOf q=1)
 (hv:Value.okWide P w r b0 t v) (h:DataW.Trod enc P w 0 (fun _=>true) true t v d p) :
 ∃ ls,RsArg w v ls:=by
 obtain ⟨a,len,cap,rfl⟩:=okWide_slice ht hv
 obtain ⟨fuel,hf⟩:=h
 rcases Deep.open_int_rows ht he hq ce cq hf with ⟨hcs,_⟩ | ⟨x,l,c,A,L,C,Z,hcs,_,hl,hm,_,hcell⟩
 ·simp [Value.cells] at hcs
  obtain ⟨rfl,rfl,rfl⟩:=hcs
  exact ⟨[],none,0,[],rfl,Nat.le_refl _,by omega,SlAt.nil _ _,rfl,by simp⟩
 ·simp [Value.cells] at hcs
  obtain ⟨rfl,rfl,rfl⟩:=hcs
  refine ⟨(List.range len).map fun i=>toB ((Z i).take (L i)),some x,cap,(List.range len).map fun i=>.slice (A i) (L i) (C i),by simp,by simpa using hl,by simpa [maxLen] using hm,?_,by simp,?_⟩
  ·intro j v hv
   rw [List.getElem?_map] at hv
   cases hj:(List.range len)[j]? with
   | none=>rw [hj] at hv;simp at hv
   | some i =>
    rw [hj] at hv
    have hjl:=(List.getElem?_eq_some_iff.1 hj).1
    rw [List.length_range] at hjl
    rw [List.getElem?_range hjl] at hj
    simp only [Option.some.injEq] at hj
    subst hj
    simp only [Option.map_some,Option.some.injEq] at hv
    subst hv
    exact ⟨x,rfl,(hcell j (by omega)).1⟩
  ·intro i u l hu hl'
   rw [List.getElem?_map] at hu hl'
   cases hj:(List.range len)[i]? with
   | none=>rw [hj] at hu;simp at hu
   | some j =>
    rw [hj] at hu hl'
    have hjl:=(List.getElem?_eq_some_iff.1 hj).1
    rw [List.length_range] at hjl
    rw [List.getElem?_range hjl] at hj
    simp only [Option.some.injEq] at hj
    subst hj
    simp only [Option.map_some,Option.some.injEq] at hu hl'
    subst hu
    subst hl'
    obtain ⟨_,h1,h2,h3,h4,h5,h6⟩:=hcell i (by omega)
    have e:(toB ((Z i).take (L i))).length=L i:=by rw [toB_length,List.length_take];omega
    refine ⟨A i,C i,by rw [e],by rw [e];exact h1,by simpa [maxLen] using h2,?_⟩
    cases hA:A i with
    | none =>
     have h0:C i=0:=h5 hA
     have hz0:Z i=[]:=List.eq_nil_of_length_eq_zero (by omega)
     rw [hz0]
     simp [toB,bys]
     exact SlAt.nil _ _
    | some a' =>
     have h7:=(h6 a' hA).2
     exact sl_ints (fun c hc=>h7 c (by omega)) h4 (L i)
end
theorem Fits.parts {cs:List Value} {ks:List IntKind} (n:Nat) (h:Fits cs ks):Fits (cs.take n) (ks.take n)∧Fits (cs.drop n) (ks.drop n):=by
 refine ⟨⟨by simp [h.1],fun i q hi=>?_⟩,⟨by simp [h.1],fun i q hi=>?_⟩⟩
 ·rw [List.getElem?_take] at hi ⊢
  split at hi
  ·rename_i hl;rw [if_pos hl];exact h.2 i q hi
  ·cases hi
 ·rw [List.getElem?_drop] at hi ⊢
  exact h.2 _ q hi
theorem Fits.split {cs:List Value} {k l:List IntKind} (h:Fits cs (k++l)):∃ a b,cs=a++b∧Fits a k∧Fits b l:=by
 have h1:=h.parts k.length
 rw [List.take_left,List.drop_left] at h1
 exact ⟨_,_,(List.take_append_drop k.length cs).symm,h1.1,h1.2⟩
theorem Fits.bytes:∀ {n:Nat} {cs:List Value},Fits cs (List.replicate n .u8)→∃ l:List UInt8,l.length=n∧cs=bys l
 | 0,cs,h=>⟨[],rfl,List.eq_nil_of_length_eq_zero (by simpa using h.1)⟩
 | n+1,cs,h=>by
  rw [List.replicate_succ] at h
  cases cs with
  | nil=>have:=h.1;simp at this
  | cons v cs =>
   have h0:=h.2 0 .u8 rfl
   obtain ⟨x,hx,hw⟩:=h0
   simp only [List.getElem?_cons_zero,Option.some.injEq] at hx
   subst hx
   have h1:=(h.parts 1).2
   obtain ⟨l,hl,rfl⟩:=Fits.bytes (n:=n) (cs:=cs) (by simpa using h1)
   refine ⟨UInt8.ofNat x.toNat::l,by simp [hl],?_⟩
   simp only [bys,List.map_cons]
   congr 2
   simp only [Lit.wf,Bool.and_eq_true,decide_eq_true_eq] at hw
   have h2:IntKind.u8.min=0:=rfl
   have h3:IntKind.u8.max=255:=rfl
   rw [h2,h3] at hw
   rw [UInt8.toNat_ofNat_of_lt' (by show x.toNat<256;omega)]
   omega
theorem Fits.one {k:IntKind} {cs:List Value} (h:Fits cs [k]):∃ x,cs=[.int k x]∧(Lit.int k x).wf=true:=by
 obtain ⟨x,hx,hw⟩:=h.2 0 k rfl
 have hl:cs.length=1:=h.1
 cases cs with
 | nil=>simp at hl
 | cons v r =>
  simp only [List.getElem?_cons_zero,Option.some.injEq] at hx
  subst hx
  cases r with
  | nil=>exact ⟨x,rfl,hw⟩
  | cons u r=>simp at hl
theorem wf_u8 {x:Int} (h:(Lit.int .u8 x).wf=true):∃ y:UInt8,Value.int .u8 x=vU8 y:=by
 simp only [Lit.wf,Bool.and_eq_true,decide_eq_true_eq] at h
 have h2:IntKind.u8.min=0:=rfl
 have h3:IntKind.u8.max=255:=rfl
 rw [h2,h3] at h
 refine ⟨UInt8.ofNat x.toNat,?_⟩
 congr 1
 rw [UInt8.toNat_ofNat_of_lt' (by show x.toNat<256;omega)]
 omega
section
variable {P : Program} {n : Nat} {S : List Nat} {w0 : World} {env : Env} {L : List Res}
variable {d : Tmp} {ty : TypeId} {pos : String} {af : Array Edge} {g : Option (Nat × Bool)}
theorem q_eqR {T T':TypeId} {x y:Operand} {ks:List IntKind} {c c':List Value} {r:Bool} (hF:Flat P T ks) (hx:evalE env x=some (.agg c.toArray)) (hy:evalE env y=some (.agg c'.toArray)) (f1:Fits c ks) (f2:Fits c' ks) (hr:r=true↔c=c') :
 QT P n S w0 { dst:=some d,op:=.binOp .eql T x y T',type:=ty,pos,after:=af,guard:=g } env L (.val (.bool r)) :=
 ⟨fun a w hm H=>opw_eqA hF (hm.eval hx) (hm.eval hy) f1 f2 hr ⟨_,rfl,fun h=>by simp at h,rfl,St.refl w⟩⟩
theorem q_neR {T T':TypeId} {x y:Operand} {ks:List IntKind} {c c':List Value} {r:Bool} (hF:Flat P T ks) (hx:evalE env x=some (.agg c.toArray)) (hy:evalE env y=some (.agg c'.toArray)) (f1:Fits c ks) (f2:Fits c' ks) (hr:r=true↔c=c') :
 QT P n S w0 { dst:=some d,op:=.binOp .neq T x y T',type:=ty,pos,after:=af,guard:=g } env L (.val (.bool !r)) :=
 ⟨fun a w hm H=>opw_neA hF (hm.eval hx) (hm.eval hy) f1 f2 hr ⟨_,rfl,fun h=>by simp at h,rfl,St.refl w⟩⟩
theorem q_eqT {T T':TypeId} {x y:Operand} {ks:List IntKind} {c c':List Value} (hF:Flat P T ks) (hx:evalE env x=some (.agg c.toArray)) (hy:evalE env y=some (.agg c'.toArray)) (f1:Fits c ks) (h:c=c') :
 QT P n S w0 { dst:=some d,op:=.binOp .eql T x y T',type:=ty,pos,after:=af,guard:=g } env L (.val (.bool true)) :=
 q_eqR hF hx hy f1 (h ▸ f1) ⟨fun _=>h,fun _=>rfl⟩
theorem bys_inj':∀ {a b:List UInt8},bys a=bys b→a=b
 | [],[],_=>rfl
 | [],_::_,h=>by simp [bys] at h
 | _::_,[],h=>by simp [bys] at h
 | x::a,y::b,h=>by
  simp only [bys,List.map_cons,List.cons.injEq,Value.int.injEq,true_and] at h
  have h1:x=y:=UInt8.toNat_inj.1 (by omega)
  rw [h1,bys_inj' (show bys a=bys b from h.2)]
theorem q_eqB {T T':TypeId} {x y:Operand} {ks:List IntKind} {l m:List UInt8} (hF:Flat P T ks) (hx:evalE env x=some (.agg (bys l).toArray)) (hy:evalE env y=some (.agg (bys m).toArray)) (f1:Fits (bys l) ks) (f2:Fits (bys m) ks) :
 QT P n S w0 { dst:=some d,op:=.binOp .eql T x y T',type:=ty,pos,after:=af,guard:=g } env L (.val (.bool (decide (l=m)))) :=
 q_eqR hF hx hy f1 f2 (by rw [decide_eq_true_iff];exact ⟨fun h=>by rw [h],bys_inj'⟩)
theorem q_neB {T T':TypeId} {x y:Operand} {ks:List IntKind} {l m:List UInt8} (hF:Flat P T ks) (hx:evalE env x=some (.agg (bys l).toArray)) (hy:evalE env y=some (.agg (bys m).toArray)) (f1:Fits (bys l) ks) (f2:Fits (bys m) ks) :
 QT P n S w0 { dst:=some d,op:=.binOp .neq T x y T',type:=ty,pos,after:=af,guard:=g } env L (.val (.bool (!decide (l=m)))) :=
 q_neR hF hx hy f1 f2 (by rw [decide_eq_true_iff];exact ⟨fun h=>by rw [h],bys_inj'⟩)
theorem fits_bys' {l:List UInt8} {n:Nat} (h:l.length=n):Fits (bys l) (List.replicate n .u8):=h ▸ fits_bys l
end
end Go.PBYtfpdnpppcoomnaaGreat
namespace Go.Proofs.YtfpdnpppcoomnaaGreat
open Go.RowKit Go.PBYtfpdnpppcoomnaaGreat
theorem spread32 (k p:List UInt8):spread k p 32=macB k (p++[1]):=by
 rw [spread,List.take_of_length_le (by rw [sprOut_length];omega),show (32+31) / 32=1 from rfl,sprOut,sprOut,sprLast,sprLast,List.nil_append,List.nil_append,show UInt8.ofNat (0+1)=1 from rfl]
theorem keyPart {k:List UInt8}:∀ {ps:List (List UInt8)} {more:List Value} (j:Nat),j<ps.length→∀ o,o=32*j→((bys (keysB k ps)++more).drop o).take 32=bys (spread k (ps.getD j []) 32)
 | [],_,j,h,_,_=>by simp at h
 | p::r,more,0,h,o,ho=>by
  subst ho
  have e:keysB k (p::r)=spread k p 32++keysB k r:=rfl
  rw [e,bys_append,Nat.mul_zero,List.drop_zero,List.append_assoc,List.take_left' (by rw [bys_length,spread_length])]
  rfl
 | p::r,more,j+1,h,o,ho=>by
  have e:keysB k (p::r)=spread k p 32++keysB k r:=rfl
  rw [e,bys_append,List.append_assoc,ho,show 32*(j+1)=32+32*j by omega,← List.drop_drop,List.drop_left' (by rw [bys_length,spread_length]),keyPart j (by simpa using h) _ rfl]
  rfl
def k1:List UInt8:=1::List.replicate 31 0
def keyP (k p:List UInt8):List UInt8:=macB k (p++[1])
theorem keyP_length (k p:List UInt8):(keyP k p).length=32:=macB_length ..
theorem spreadP (k p:List UInt8):spread k p 32=keyP k p:=spread32 k p
theorem two_calls (k p q:List UInt8) (hk:k.length=32) (hp:p.length≤1000) (hq:q.length≤1000) (w:World) :
 Calls Tryz.prog 91 #[.agg (bys k).toArray,.string ⟨p.toArray⟩,.string ⟨q.toArray⟩] w fun e w'=>e=.returned (.tuple #[.agg (bys (keyP k p)).toArray,.agg (bys (keyP k q)).toArray])∧Kept [] w w':=by
 have hp1:=keyP_length k p
 have hq1:=keyP_length k q
 refine enter (n:=20) (R:=fun e L=>e=.returned (.tuple #[.agg (bys (keyP k p)).toArray,.agg (bys (keyP k q)).toArray])) [.agg (bys k).toArray,.string ⟨p.toArray⟩,.string ⟨q.toArray⟩] F91 rfl rfl rfl (St.refl w) ?_ (fun e w' L' h H=>⟨h,H.kept⟩)
 refine VC_seq<|VC_region<|l_boxA rfl rfl<|fun b3=>l_allocA zr33 rfl<|fun b6=>l_allocA zr33 rfl<|fun b7=>vl_nil<|th_n<|VC_seq<|VC_region<|vl_v (q_loads 2 U33 rfl rfl rfl sz33 (by simp only [zb,zu,zw,zi,za];omega)) rfl<|vl_v (q_move rfl) rfl<|vl_v (q_move rfl) rfl ?_
 refine l_litA (cs:=strs [p,q]) U220 in9 (by decide) rfl rfl rfl rfl (one_all rfl) rfl rfl<|fun b12=>?_
 refine l_callR F105 rfl rfl rfl (fun w1 H1=>keys_calls k [p,q] _ 2 2 hk rfl (by simp) (by intro x hx;simp only [List.mem_cons,List.not_mem_nil,or_false] at hx;rcases hx with rfl | rfl<;>assumption) w1 (Reads.row 0 rfl w1 H1) (by omega)) rfl ?_
 intro A13 c13 hc13 hm13
 refine vl_v (q_assign rfl) rfl<|vl_nil<|th_n<|VC_seq<|VC_rowBlk (by omega)<|fun bK more eA=>?_
 subst eA
 refine VC_drawQ 7 5 [[],[0],[1],[],[3],[4],[2,0,1],[5,6,0,1,2,3,4]] [[],[0],[0,1],[],[3],[3,4],[0,1,2],[0,1,2,3,4,5,6]] [([],[],[],[0,1,2,3,4],[]),([0],[],[],[0,1,2,3,4],[0]),([0,1],[],[],[0,1,2,3,4],[0,1]),([],[],[],[0,1,2,4],[]),([3],[],[],[0,1,2,4],[3]),([3,4],[],[],[0,1,2,4],[3,4]),([0,1,2],[3],[],[0,1,2,4],[0,1,2])] [0,1,2,4] [0,1,2,3,4,5,6] rfl rfl (by kernel_rfl)<|qp_v (fun xs gs hx=>q_move rfl)<|qp_v (fun xs gs hx=>q_idxS0 (m:=0) U208 sz33 rfl rfl (by omega) rfl)<|qp_v (fun xs gs hx=>q_loadsAt (vs:=bys (keyP k p)) 0 U33 rfl rfl rfl sz33 (by have h:=keyPart (k:=k) (ps:=[p,q]) (more:=more) 0 (by simp) 0 rfl;rw [spreadP] at h;exact h) (by rw [bys_length,hp1]))<|qp_v (fun xs gs hx=>q_move rfl)<|qp_v (fun xs gs hx=>q_idxS0 (m:=1) U208 sz33 rfl rfl (by omega) rfl)<|qp_v (fun xs gs hx=>q_loadsAt (vs:=bys (keyP k q)) 0 U33 rfl rfl rfl sz33 (by have h:=keyPart (k:=k) (ps:=[p,q]) (more:=more) 1 (by simp) 32 rfl;rw [spreadP] at h;exact h) (by rw [bys_length,hq1])) ?_
 refine qp_storeA (fun xs gs hx=>rfl) (fun xs gs hx=>rfl) (fun xs gs hx=>rfl) sz33 (fun xs gs hx=>by first | omega | with_reducible assumption | (simp only [zb,zu,zw,zi,za];omega) | (simp only [zs,zr,zm,za,zb,zu,zw,zi,zt,zd,zc,zn, *]<;>first | done | omega) | rfl) (fun xs gs hx=>by first | (with_reducible first | exact bys_one _ | exact u32s_one _ | exact u64s_one _ | exact i64s_one _ | exact n64s_one _ | assumption) | exact bys_one _ | exact u32s_one _ | exact u64s_one _ | exact i64s_one _ | exact one_all rfl | (refine app_one ?_ ?_<;>first | exact bys_one _ | exact one_all rfl | (simp;done))) (fun xs gs hx=>by first | omega | with_reducible assumption | (simp only [zb,zu,zw,zi,za];omega) | (simp only [zs,zr,zm,za,zb,zu,zw,zi,zt,zd,zc,zn, *]<;>first | done | omega) | rfl) ?_
 refine qp_end<|fun xs gs hx=>?_
 obtain ⟨_,_⟩:=hx
 simp only [selI,ownsA,List.contains_cons,List.contains_nil,Nat.reduceBEq,Nat.reduceAdd,Bool.or_false,Bool.or_true,Bool.false_or,Bool.true_or,mask,nRow,nBlk,nRowT,tupAt_0,tupAt_1,List.append_assoc,List.nil_append,List.append_nil,List.cons_append,List.singleton_append]
 refine VL.keep (kp [0,1,2,3,6,7,8,19] rfl) ?_
 refine l_storeA 2 rfl rfl rfl sz33 (by simp only [zb,zu,zw,zi,za];omega) (by with_reducible first | exact bys_one _ | exact u32s_one _ | exact u64s_one _ | exact i64s_one _ | exact n64s_one _ | assumption) (by simp only [zs,zr,zm,za,zb,zu,zw,zi,zt,zd,zc,zn, *]<;>first | done | omega) ?_
 simp only [List.set_cons_zero,List.set_cons_succ]
 refine vl_nil<|qn_n<|th_n<|VC_ret ?_
 refine ⟨_,resCC 4 2 rfl U33 rfl rfl rfl sz33 (by simp only [zb,zu,zw,zi,za];omega) U33 rfl rfl rfl sz33 (by simp only [zb,zu,zw,zi,za];omega),?_⟩
 exact rfl
abbrev tMsg:List UInt8:=[109,101,115,115,97,103,101]
abbrev tChain:List UInt8:=[99,104,97,105,110]
abbrev tRoot:List UInt8:=[114,111,111,116]
theorem step_calls (k:List UInt8) (hk:k.length=32) (w:World) :
 Calls Tryz.prog 70 #[.agg (bys k).toArray] w fun e w'=>e=.returned (.tuple #[.agg (bys (keyP k tMsg)).toArray,.agg (bys (keyP k tChain)).toArray])∧Kept [] w w':=by
 have hp1:=keyP_length k tMsg
 have hq1:=keyP_length k tChain
 refine enter (n:=8) (R:=fun e L=>e=.returned (.tuple #[.agg (bys (keyP k tMsg)).toArray,.agg (bys (keyP k tChain)).toArray])) [.agg (bys k).toArray] F70 rfl rfl rfl (St.refl w) ?_ (fun e w' L' h H=>⟨h,H.kept⟩)
 refine VC_seq<|VC_region<|l_boxA rfl rfl<|fun b1=>l_allocA zr33 rfl<|fun b2=>l_allocA zr33 rfl<|fun b3=>vl_nil<|th_n<|VC_seq<|VC_region<|vl_v (q_loads 2 U33 rfl rfl rfl sz33 (by simp only [zb,zu,zw,zi,za];omega)) rfl<|vl_v (q_callV F91 rfl rfl rfl (fun w1 H1=>two_calls k tMsg tChain hk (by decide) (by decide) w1)) rfl<|vl_v (q_ext rfl rfl) rfl ?_
 refine vl_v (q_ext rfl rfl) rfl ?_
 refine l_storeA 1 rfl rfl rfl sz33 (by simp only [zb,zu,zw,zi,za];omega) (by with_reducible first | exact bys_one _ | exact u32s_one _ | exact u64s_one _ | exact i64s_one _ | exact n64s_one _ | assumption) (by simp only [zs,zr,zm,za,zb,zu,zw,zi,zt,zd,zc,zn, *]<;>first | done | omega) ?_
 simp only [List.set_cons_zero,List.set_cons_succ]
 refine l_storeA 0 rfl rfl rfl sz33 (by simp only [zb,zu,zw,zi,za];omega) (by with_reducible first | exact bys_one _ | exact u32s_one _ | exact u64s_one _ | exact i64s_one _ | exact n64s_one _ | assumption) (by simp only [zs,zr,zm,za,zb,zu,zw,zi,zt,zd,zc,zn, *]<;>first | done | omega) ?_
 simp only [List.set_cons_zero,List.set_cons_succ]
 refine vl_nil<|th_n<|VC_ret ?_
 refine ⟨_,resCC 1 0 rfl U33 rfl rfl rfl sz33 (by simp only [zb,zu,zw,zi,za];omega) U33 rfl rfl rfl sz33 (by simp only [zb,zu,zw,zi,za];omega),?_⟩
 exact rfl
theorem root_calls (r c:List UInt8) (hr:r.length=32) (hc:c.length=32) (w:World) :
 Calls Tryz.prog 88 #[.agg (bys r).toArray,.agg (bys c).toArray] w fun e w'=>e=.returned (.tuple #[.agg (bys (keyP (macB r c) tRoot)).toArray,.agg (bys (keyP (macB r c) tChain)).toArray])∧Kept [] w w':=by
 have hm:=macB_length r c
 have hp1:=keyP_length (macB r c) tRoot
 have hq1:=keyP_length (macB r c) tChain
 refine enter (n:=12) (R:=fun e L=>e=.returned (.tuple #[.agg (bys (keyP (macB r c) tRoot)).toArray,.agg (bys (keyP (macB r c) tChain)).toArray])) [.agg (bys r).toArray,.agg (bys c).toArray] F88 rfl rfl rfl (St.refl w) ?_ (fun e w' L' h H=>⟨h,H.kept⟩)
 refine VC_seq<|VC_region<|l_boxA rfl rfl<|fun b2=>l_boxA rfl rfl<|fun b3=>l_allocA zr33 rfl<|fun b4=>l_allocA zr33 rfl<|fun b5=>vl_nil<|th_n<|VC_seq<|VC_drawV 6 [[],[],[0,1],[2],[3],[3],[4,3,0,1,2,5],[5,6,0,1,2,3,4]] [[],[],[0,1],[0,1,2],[0,1,2,3],[0,1,2,3],[0,1,2,3,4,5],[0,1,2,3,4,5,6]] rfl (by kernel_rfl)<|qv_v (q_loads 3 U33 rfl rfl rfl sz33 (by simp only [zb,zu,zw,zi,za];omega)) ?_
 refine qv_v (q_slcA U33 sz5 rfl rfl rfl rfl (.inl rfl) (by omega) (by omega) (by omega) (by omega) (by (try simp only [Nat.mul_one,Nat.zero_add,Nat.zero_mul,Nat.mul_zero,Nat.add_zero])<;>rfl)) ?_
 refine qv_v (q_callV F25 rfl rfl rfl (fun w1 H1=>draw_calls r c _ _ _ hr hc.symm (by omega) w1 (Reads.blk 2 rfl w1 H1) (by omega)))<|qv_v (q_callV F91 rfl rfl rfl (fun w1 H1=>two_calls (macB r c) tRoot tChain hm (by decide) (by decide) w1))<|qv_v (q_ext rfl rfl)<|qv_v (q_ext rfl rfl)<|qv_end<|VL.keep (kp [0,1,2,3,4,5,10,11] rfl) ?_
 refine l_storeA 1 rfl rfl rfl sz33 (by simp only [zb,zu,zw,zi,za];omega) (by with_reducible first | exact bys_one _ | exact u32s_one _ | exact u64s_one _ | exact i64s_one _ | exact n64s_one _ | assumption) (by simp only [zs,zr,zm,za,zb,zu,zw,zi,zt,zd,zc,zn, *]<;>first | done | omega) ?_
 simp only [List.set_cons_zero,List.set_cons_succ]
 refine l_storeA 0 rfl rfl rfl sz33 (by simp only [zb,zu,zw,zi,za];omega) (by with_reducible first | exact bys_one _ | exact u32s_one _ | exact u64s_one _ | exact i64s_one _ | exact n64s_one _ | assumption) (by simp only [zs,zr,zm,za,zb,zu,zw,zi,zt,zd,zc,zn, *]<;>first | done | omega) ?_
 simp only [List.set_cons_zero,List.set_cons_succ]
 refine vl_nil<|qn_n<|th_n<|VC_ret ?_
 refine ⟨_,resCC 1 0 rfl U33 rfl rfl rfl sz33 (by simp only [zb,zu,zw,zi,za];omega) U33 rfl rfl rfl sz33 (by simp only [zb,zu,zw,zi,za];omega),?_⟩
 exact rfl
end Go.Proofs.YtfpdnpppcoomnaaGreat
namespace Go.PBYtfpdnpppcoomnaaGreat
open Go Go.RowKit
def qr2 (l:List UInt32) (a b c d r s:Nat):List UInt32 :=
 let l1:=l.set a (l.getD a 0+l.getD b 0)
 let l2:=l1.set d (rotl (l1.getD d 0 ^^^ l1.getD a 0) r)
 let l3:=l2.set c (l2.getD c 0+l2.getD d 0)
 l3.set b (rotl (l3.getD b 0 ^^^ l3.getD c 0) s)
theorem qr2_length (l:List UInt32) (a b c d r s:Nat):(qr2 l a b c d r s).length=l.length:=by simp [qr2]
def ra (k:Nat):Nat:=if k=0 then 16 else 8
def rb (k:Nat):Nat:=if k=0 then 12 else 7
def qit (l:List UInt32) (a b c d:Nat):Nat→List UInt32
 | 0=>l
 | k+1=>qr2 (qit l a b c d k) a b c d (ra k) (rb k)
theorem qit_length (l:List UInt32) (a b c d:Nat):∀ k,(qit l a b c d k).length=l.length
 | 0=>rfl
 | k+1=>by rw [qit,qr2_length,qit_length]
def quarter (l:List UInt32) (a b c d:Nat):List UInt32:=qit l a b c d 2
theorem quarter_length (l:List UInt32) (a b c d:Nat):(quarter l a b c d).length=l.length:=qit_length ..
def begZ (n:UInt32):List UInt32:=[1634760805,857760878,2036477234,1797285236,0,0,0,0,0,0,0,0,n,0,0,0]
def begK (k:List UInt8) (n:UInt32):Nat→List UInt32
 | 0=>begZ n
 | i+1=>(begK k n i).set (4+i) (word32 (k.drop (4*i)))
def begN (k nn:List UInt8) (n:UInt32):Nat→List UInt32
 | 0=>begK k n 8
 | i+1=>(begN k nn n i).set (13+i) (word32 (nn.drop (4*i)))
def begC (k nn:List UInt8) (n:UInt32):List UInt32:=begN k nn n 3
theorem begK_length (k:List UInt8) (n:UInt32):∀ i,(begK k n i).length=16
 | 0=>rfl
 | i+1=>by rw [begK,List.length_set,begK_length]
theorem begN_length (k nn:List UInt8) (n:UInt32):∀ i,(begN k nn n i).length=16
 | 0=>begK_length ..
 | i+1=>by rw [begN,List.length_set,begN_length]
theorem beg_length (k nn:List UInt8) (n:UInt32):(begC k nn n).length=16:=begN_length ..
def cols (l:List UInt32):Nat→List UInt32
 | 0=>l
 | i+1=>quarter (cols l i) i (4+i) (8+i) (12+i)
def diags (l:List UInt32):Nat→List UInt32
 | 0=>l
 | i+1=>quarter (diags l i) i (4+(i+1) % 4) (8+(i+2) % 4) (12+(i+3) % 4)
theorem cols_length (l:List UInt32):∀ i,(cols l i).length=l.length
 | 0=>rfl
 | i+1=>by rw [cols,quarter_length,cols_length]
theorem diags_length (l:List UInt32):∀ i,(diags l i).length=l.length
 | 0=>rfl
 | i+1=>by rw [diags,quarter_length,diags_length]
def rnd (l:List UInt32):Nat→List UInt32
 | 0=>l
 | k+1=>diags (cols (rnd l k) 4) 4
theorem rnd_length (l:List UInt32):∀ k,(rnd l k).length=l.length
 | 0=>rfl
 | k+1=>by rw [rnd,diags_length,cols_length,rnd_length]
def outP (v w:List UInt32):Nat→List UInt8
 | 0=>[]
 | i+1=>outP v w i++lowB (v.getD i 0+w.getD i 0).toNat 4
theorem outP_length (v w:List UInt32):∀ i,(outP v w i).length=4*i
 | 0=>rfl
 | i+1=>by rw [outP,List.length_append,outP_length,lowB_length];omega
def block (k nn:List UInt8) (n:UInt32):List UInt8:=outP (begC k nn n) (rnd (begC k nn n) 10) 16
theorem block_length (k nn:List UInt8) (n:UInt32):(block k nn n).length=64:=outP_length ..
theorem outP_step (v w:List UInt32) (i:Nat) (hi:i<16):splice (bys (outP v w i++List.replicate (64-4*i) 0)) (4*i) (bys (lowB (v.getD i 0+w.getD i 0).toNat 4))=bys (outP v w (i+1)++List.replicate (64-4*(i+1)) 0):=by
 have h1:=outP_length v w i
 simp only [splice,outP,bys_take,bys_drop,bys_length,lowB_length,← bys_append]
 congr 1
 rw [List.take_left' h1]
 simp only [List.append_assoc]
 congr 2
 rw [List.drop_append,List.drop_eq_nil_of_le (by omega),List.nil_append,h1,List.drop_replicate]
 congr 1
 omega
def ks (k nn:List UInt8) (n:UInt32) (j:Nat):List UInt8:=block k nn (n+UInt32.ofNat j)
theorem ks_length (k nn:List UInt8) (n:UInt32) (j:Nat):(ks k nn n j).length=64:=block_length ..
def tat (B:Nat→List UInt8) (b:List UInt8) (i:Nat):UInt8:=b.getD i 0 ^^^ (B (i / 64)).getD (i % 64) 0
def tb (B:Nat→List UInt8) (b:List UInt8) (i:Nat):List UInt8:=(List.range i).map (tat B b)
def turnB (k nn:List UInt8) (n:UInt32) (b:List UInt8):List UInt8:=tb (ks k nn n) b b.length
theorem tb_length (B:Nat→List UInt8) (b:List UInt8) (i:Nat):(tb B b i).length=i:=by simp [tb]
theorem turnB_length (k nn:List UInt8) (n:UInt32) (b:List UInt8):(turnB k nn n b).length=b.length:=tb_length ..
theorem tb_at {B:Nat→List UInt8} {b:List UInt8} {i n:Nat} (h:i<n):(tb B b n)[i]?=some (tat B b i):=by simp [tb,h]
theorem tb_chunk (B:Nat→List UInt8) (hB:∀ j,(B j).length=64) (b:List UInt8) (j m:Nat) (hm:m≤64) (hb:64*j+m≤b.length) :
 tb B b (64*j)++xorB ((b.drop (64*j)).take m) ((B j).take m)=tb B b (64*j+m):=by
 have hl:=hB j
 apply List.ext_getElem?
 intro i
 by_cases h0:i<64*j+m
 ·rw [tb_at h0]
  by_cases h:i<64*j
  ·rw [List.getElem?_append_left (by rw [tb_length];exact h),tb_at h]
  ·rw [List.getElem?_append_right (by rw [tb_length];omega),tb_length]
   have e1:i / 64=j:=by omega
   have e2:i % 64=i-64*j:=by omega
   have e3:64*j+(i-64*j)=i:=by omega
   unfold xorB tat
   rw [List.getElem?_zipWith,List.getElem?_take,List.getElem?_take,if_pos (by omega),if_pos (by omega),List.getElem?_drop,e3,e1,e2]
   rw [List.getElem?_eq_getElem (by omega),List.getElem?_eq_getElem (by omega),List.getD_eq_getElem?_getD,List.getD_eq_getElem?_getD,List.getElem?_eq_getElem (by omega),List.getElem?_eq_getElem (by omega)]
   rfl
 ·rw [List.getElem?_eq_none (by rw [List.length_append,tb_length];simp [xorB];omega),List.getElem?_eq_none (by rw [tb_length];omega)]
theorem outP_copy (v w:List UInt32) (i:Nat) (hi:i<16):splice (bys (outP v w i++List.replicate (64-4*i) 0)) (4*i) ((bys (lowB (v.getD i 0+w.getD i 0).toNat 4)).take (min 4 (64-4*i)))=bys (outP v w (i+1)++List.replicate (64-4*(i+1)) 0):=by
 rw [List.take_of_length_le (by rw [bys_length,lowB_length];omega)]
 exact outP_step v w i hi
theorem tb_getD {B:Nat→List UInt8} {b:List UInt8} {i n:Nat} (h:i<n):(tb B b n).getD i 0=tat B b i:=by rw [List.getD_eq_getElem?_getD,tb_at h];rfl
theorem tat_tat (B:Nat→List UInt8) (b:List UInt8) (n i:Nat) (h:i<n):tat B (tb B b n) i=b.getD i 0:=by
 show (tb B b n).getD i 0 ^^^ _=_
 rw [tb_getD h]
 unfold tat
 rw [UInt8.xor_assoc,UInt8.xor_self,UInt8.xor_zero]
theorem turn_twice (k nn:List UInt8) (n:UInt32) (b:List UInt8):turnB k nn n (turnB k nn n b)=b:=by
 apply List.ext_getElem?
 intro i
 by_cases h:i<b.length
 ·have h1:i<(turnB k nn n b).length:=by rw [turnB_length];exact h
  rw [turnB,tb_at h1]
  unfold turnB
  rw [tat_tat _ _ _ _ h,List.getElem?_eq_getElem h,List.getD_eq_getElem?_getD,List.getElem?_eq_getElem h]
  rfl
 ·rw [List.getElem?_eq_none (by rw [turnB_length,turnB_length];omega),List.getElem?_eq_none (by omega)]
end Go.PBYtfpdnpppcoomnaaGreat
namespace Go.Proofs.YtfpdnpppcoomnaaGreat
open Go.RowKit Go.PBYtfpdnpppcoomnaaGreat
theorem word_calls (l:List UInt8) (A:Option Addr) (m c:Nat) (hm:m=l.length) (w:World) (hA:SlAt w A (bys l)) (h4:4≤l.length) (hc:l.length≤c) (hl:l.length≤100000) :
 Calls Tryz.prog 128 #[.slice A m c] w fun e w'=>e=.returned (vU32 (word32 l))∧Kept [] w w':=by
 subst hm
 refine enter (n:=7) (R:=fun e L=>e=.returned (vU32 (word32 l))) [.slice A l.length c] F128 rfl rfl rfl (St.refl w) ?_ (fun e w' L' h H=>⟨h,H.kept⟩)
 refine VC_seq<|VC_region<|vl_v (q_assign rfl) rfl<|vl_nil<|th_n<|VC_seq<|VC_region<|vl_v (q_move rfl) rfl<|vl_v (q_slcS0 (h:=4) (m:=4) U22 sz5 rfl ⟨_,rfl⟩ ⟨_,rfl⟩ (.inr rfl) (by omega) (by omega)) rfl<|vl_v (q_callV F102 rfl rfl rfl (fun w1 H1=>Calls.mono (by have h:=ofLow_calls (l.take 4) A 4 w1 (by rw [← bys_take];exact (Reads.old hA w1 H1).take 4) (by simp;omega) (by simp;omega);rw [show (l.take 4).length=4 by simp;omega] at h;exact h) (fun e w' h=>h))) rfl<|vl_v (q_conv_nu32 U78 U127 rfl) rfl<|vl_v (q_assign rfl) rfl ?_
 refine vl_nil<|th_n<|VC_ret<|⟨_,res1 rfl rfl,?_⟩
 exact congrArg Ending.returned (by rw [List.take_take];rfl)
theorem part52 (k:Nat) (hk:k<2):(([Value.int .i64 16,Value.int .i64 12,Value.int .i64 8,Value.int .i64 7]:List Value).drop (k*2)).take 2=[vN (ra k),vN (rb k)]:=by
 obtain rfl | rfl:k=0∨k=1:=by omega
 ·rfl
 ·rfl
theorem rot_ra (x:UInt32) (k:Nat) (hk:k<2) (w:World):Calls Tryz.prog 113 #[vU32 x,vN (ra k)] w fun e w'=>e=.returned (vU32 (rotl x (ra k)))∧Kept [] w w':=by
 obtain rfl | rfl:k=0∨k=1:=by omega
 ·exact rot_calls x 16 16 16 rfl (by decide) (by decide) w
 ·exact rot_calls x 8 8 8 rfl (by decide) (by decide) w
theorem rot_rb (x:UInt32) (k:Nat) (hk:k<2) (w:World):Calls Tryz.prog 113 #[vU32 x,vN (rb k)] w fun e w'=>e=.returned (vU32 (rotl x (rb k)))∧Kept [] w w':=by
 obtain rfl | rfl:k=0∨k=1:=by omega
 ·exact rot_calls x 12 12 12 rfl (by decide) (by decide) w
 ·exact rot_calls x 7 7 7 rfl (by decide) (by decide) w
theorem quarter_calls {S:List Nat} {w0:World} {R:List Res} (l:List UInt32) (i1 i2 i3 i4:Nat) (bl:Nat) (hl:l.length=16) (h1:i1<16) (h2:i2<16) (h3:i3<16) (h4:i4<16) (w:World) (H:St S w0 (.blk bl 227 (u32s l)::R) w) :
 Calls Tryz.prog 123 #[vP bl 0,vN i1,vN i2,vN i3,vN i4] w fun e w'=>e=.returned (.tuple #[])∧St S w0 (.blk bl 227 (u32s (quarter l i1 i2 i3 i4))::R) w':=by
 refine enter (n:=81) (R:=fun e L=>e=.returned (.tuple #[])∧L=.blk bl 227 (u32s (quarter l i1 i2 i3 i4))::R) [vP bl 0,vN i1,vN i2,vN i3,vN i4] F123 rfl rfl rfl H ?_ (fun e w' L' h H=>⟨h.1,h.2 ▸ H⟩)
 refine VC_seq<|VC_region<|vl_v (q_build (c':=[.int .i64 16,.int .i64 12]) rfl (by kernel_rfl)) rfl<|vl_v (q_build (c':=[.int .i64 8,.int .i64 7]) rfl (by kernel_rfl)) rfl<|vl_v (q_build (c':=[.int .i64 16,.int .i64 12,.int .i64 8,.int .i64 7]) rfl (by kernel_rfl)) rfl<|vl_v (q_move rfl) rfl<|vl_nil<|th_n<|VC_block<|VC_loop (ι:=Nat) (fun k=>k≤2) (fun k=>[(0,vP bl 0),(1,vN i1),(2,vN i2),(3,vN i3),(4,vN i4),(14,.agg #[.int .i64 16,.int .i64 12,.int .i64 8,.int .i64 7]),(15,vN k)]) (fun k=>.blk bl 227 (u32s (qit l i1 i2 i3 i4 k))::R) (fun k=>2-k) 0 (by omega) (kp [0,1,2,3,4,14,15] rfl) (fun w H=>H) ?_
 rintro k hp
 have hq:(qit l i1 i2 i3 i4 k).length=16:=by rw [qit_length,hl]
 refine VC_seq<|VC_region<|vl_v (q_lss_n (q:=2) U3 rfl rfl) rfl<|vl_nil<|th_n<|VC_seq<|VC_cond rfl (fun ht16=>?_) (fun ht16=>?_)
 ·skip
  have ht16:=of_decide_eq_true ht16
  refine VC_skip<|th_n<|VC_seq<|VC_block<|VC_seq<|VC_region<|vl_v (q_idxVA U235 U234 rfl sz234 rfl rfl (by omega) (by exact part52 k ht16)) rfl<|l_allocA zr234 rfl<|fun b11=>?_
  refine l_storeA 0 rfl rfl rfl sz234 (by simp only [zs,zr,zm,za,zb,zu,zw,zi,zt,zd,zc,zn, *]<;>first | done | omega) (by exact one_all rfl) (by simp only [zs,zr,zm,za,zb,zu,zw,zi,zt,zd,zc,zn, *]<;>first | done | omega) ?_
  simp only [List.set_cons_zero,List.set_cons_succ]
  refine vl_nil<|th_n<|VC_seq<|VC_drawV 12 [[],[],[0],[2,1],[3],[],[],[5],[7,6],[8],[4,9],[0],[11,1,0,2,3,4,5,6,7,8,9,10],[12,10,0,1,2,3,4,5,6,7,8,9]] [[],[],[0],[0,1,2],[0,1,2,3],[],[],[5],[5,6,7],[5,6,7,8],[0,1,2,3,4,5,6,7,8,9],[0],[0,1,2,3,4,5,6,7,8,9,10,11],[0,1,2,3,4,5,6,7,8,9,10,11,12]] rfl (by kernel_rfl)<|qv_v (q_move rfl)<|qv_v (q_move rfl)<|qv_v (q_nilck rfl)<|qv_v (q_idxA U227 sz127 rfl rfl (by omega) (r:=_) (by rw [Nat.mul_one,Nat.zero_add]))<|qv_v (q_load 1 U127 rfl rfl rfl (u32s_at (by omega)))<|qv_v (q_move rfl)<|qv_v (q_move rfl)<|qv_v (q_nilck rfl) ?_
  refine qv_v (q_idxA U227 sz127 rfl rfl (by omega) (r:=_) (by rw [Nat.mul_one,Nat.zero_add]))<|qv_v (q_load 1 U127 rfl rfl rfl (u32s_at (by omega)))<|qv_v (q_add_u32 rfl rfl)<|qv_v (q_nilck rfl)<|qv_end<|VL.keep (kp [0,1,2,3,4,14,15,16,11,19,28,29] rfl)<|vl_v (q_idxA U227 sz127 rfl rfl (by omega) (r:=_) (by rw [Nat.mul_one,Nat.zero_add])) rfl<|l_stU32 1 rfl rfl rfl sz127 (by omega) ?_
  simp only [List.set_cons_zero,List.set_cons_succ]
  refine vl_nil<|qn_n<|th_n<|VC_seq<|VC_drawV 17 [[],[],[],[],[2],[4,3],[5],[],[],[7],[9,8],[10],[6,11],[],[13],[12,14],[0],[16,1,0,2,3,4,5,6,7,8,9,10,11,12,13,14,15],[17,15,0,1,2,3,4,5,6,7,8,9,10,11,12,13,14]] [[],[],[],[],[2],[2,3,4],[2,3,4,5],[],[],[7],[7,8,9],[7,8,9,10],[2,3,4,5,6,7,8,9,10,11],[],[13],[2,3,4,5,6,7,8,9,10,11,12,13,14],[0],[0,1,2,3,4,5,6,7,8,9,10,11,12,13,14,15,16],[0,1,2,3,4,5,6,7,8,9,10,11,12,13,14,15,16,17]] rfl (by kernel_rfl)<|qv_v (q_move rfl)<|qv_v (q_move rfl)<|qv_v (q_move rfl)<|qv_v (q_move rfl)<|qv_v (q_nilck rfl)<|qv_v (q_idxA U227 sz127 rfl rfl (by omega) (r:=_) (by rw [Nat.mul_one,Nat.zero_add])) ?_
  refine qv_v (q_load 1 U127 rfl rfl rfl (u32s_at (by simp only [zs,zr,zm,za,zb,zu,zw,zi,zt,zd,zc,zn, *]<;>first | done | omega))) ?_
  refine qv_v (q_move rfl)<|qv_v (q_move rfl)<|qv_v (q_nilck rfl)<|qv_v (q_idxA U227 sz127 rfl rfl (by omega) (r:=_) (by rw [Nat.mul_one,Nat.zero_add])) ?_
  refine qv_v (q_load 1 U127 rfl rfl rfl (u32s_at (by simp only [zs,zr,zm,za,zb,zu,zw,zi,zt,zd,zc,zn, *]<;>first | done | omega))) ?_
  refine qv_v (q_xor_u32 rfl rfl)<|qv_v (q_idxA (m:=0) U234 sz3 rfl rfl (by omega) (r:=_) (by rw [Nat.mul_one,Nat.zero_add]))<|qv_v (q_load 0 U3 rfl rfl rfl rfl)<|qv_v (q_callV F113 rfl rfl rfl (fun w1 H1=>rot_ra _ k ht16 w1))<|qv_v (q_nilck rfl)<|qv_end<|VL.keep (kp [0,1,2,3,4,14,15,16,11,32,46,47] rfl)<|vl_v (q_idxA U227 sz127 rfl rfl (by omega) (r:=_) (by rw [Nat.mul_one,Nat.zero_add])) rfl ?_
  refine l_stU32 1 rfl rfl rfl sz127 (by simp only [zs,zr,zm,za,zb,zu,zw,zi,zt,zd,zc,zn, *]<;>first | done | omega) ?_
  simp only [List.set_cons_zero,List.set_cons_succ]
  refine vl_nil<|qn_n<|th_n<|VC_seq<|VC_drawV 12 [[],[],[0],[2,1],[3],[],[],[5],[7,6],[8],[4,9],[0],[11,1,0,2,3,4,5,6,7,8,9,10],[12,10,0,1,2,3,4,5,6,7,8,9]] [[],[],[0],[0,1,2],[0,1,2,3],[],[],[5],[5,6,7],[5,6,7,8],[0,1,2,3,4,5,6,7,8,9],[0],[0,1,2,3,4,5,6,7,8,9,10,11],[0,1,2,3,4,5,6,7,8,9,10,11,12]] rfl (by kernel_rfl)<|qv_v (q_move rfl)<|qv_v (q_move rfl)<|qv_v (q_nilck rfl)<|qv_v (q_idxA U227 sz127 rfl rfl (by omega) (r:=_) (by rw [Nat.mul_one,Nat.zero_add])) ?_
  refine qv_v (q_load 1 U127 rfl rfl rfl (u32s_at (by simp only [zs,zr,zm,za,zb,zu,zw,zi,zt,zd,zc,zn, *]<;>first | done | omega))) ?_
  refine qv_v (q_move rfl)<|qv_v (q_move rfl)<|qv_v (q_nilck rfl)<|qv_v (q_idxA U227 sz127 rfl rfl (by omega) (r:=_) (by rw [Nat.mul_one,Nat.zero_add])) ?_
  refine qv_v (q_load 1 U127 rfl rfl rfl (u32s_at (by simp only [zs,zr,zm,za,zb,zu,zw,zi,zt,zd,zc,zn, *]<;>first | done | omega))) ?_
  refine qv_v (q_add_u32 rfl rfl)<|qv_v (q_nilck rfl)<|qv_end<|VL.keep (kp [0,1,2,3,4,14,15,16,11,50,59,60] rfl)<|vl_v (q_idxA U227 sz127 rfl rfl (by omega) (r:=_) (by rw [Nat.mul_one,Nat.zero_add])) rfl ?_
  refine l_stU32 1 rfl rfl rfl sz127 (by simp only [zs,zr,zm,za,zb,zu,zw,zi,zt,zd,zc,zn, *]<;>first | done | omega) ?_
  simp only [List.set_cons_zero,List.set_cons_succ]
  refine vl_nil<|qn_n<|th_n<|VC_drawV 17 [[],[],[],[],[2],[4,3],[5],[],[],[7],[9,8],[10],[6,11],[],[13],[12,14],[0],[16,1,0,2,3,4,5,6,7,8,9,10,11,12,13,14,15],[17,15,0,1,2,3,4,5,6,7,8,9,10,11,12,13,14]] [[],[],[],[],[2],[2,3,4],[2,3,4,5],[],[],[7],[7,8,9],[7,8,9,10],[2,3,4,5,6,7,8,9,10,11],[],[13],[2,3,4,5,6,7,8,9,10,11,12,13,14],[0],[0,1,2,3,4,5,6,7,8,9,10,11,12,13,14,15,16],[0,1,2,3,4,5,6,7,8,9,10,11,12,13,14,15,16,17]] rfl (by kernel_rfl)<|qv_v (q_move rfl)<|qv_v (q_move rfl)<|qv_v (q_move rfl)<|qv_v (q_move rfl)<|qv_v (q_nilck rfl)<|qv_v (q_idxA U227 sz127 rfl rfl (by omega) (r:=_) (by rw [Nat.mul_one,Nat.zero_add])) ?_
  refine qv_v (q_load 1 U127 rfl rfl rfl (u32s_at (by simp only [zs,zr,zm,za,zb,zu,zw,zi,zt,zd,zc,zn, *]<;>first | done | omega))) ?_
  refine qv_v (q_move rfl)<|qv_v (q_move rfl)<|qv_v (q_nilck rfl)<|qv_v (q_idxA U227 sz127 rfl rfl (by omega) (r:=_) (by rw [Nat.mul_one,Nat.zero_add])) ?_
  refine qv_v (q_load 1 U127 rfl rfl rfl (u32s_at (by simp only [zs,zr,zm,za,zb,zu,zw,zi,zt,zd,zc,zn, *]<;>first | done | omega))) ?_
  refine qv_v (q_xor_u32 rfl rfl)<|qv_v (q_idxA (m:=1) U234 sz3 rfl rfl (by omega) (r:=_) (by rw [Nat.mul_one,Nat.zero_add]))<|qv_v (q_load 0 U3 rfl rfl rfl rfl)<|qv_v (q_callV F113 rfl rfl rfl (fun w1 H1=>rot_rb _ k ht16 w1))<|qv_v (q_nilck rfl)<|qv_end<|VL.keep (kp [0,1,2,3,4,14,15,16,11,63,77,78] rfl)<|vl_v (q_idxA U227 sz127 rfl rfl (by omega) (r:=_) (by rw [Nat.mul_one,Nat.zero_add])) rfl ?_
  refine l_stU32 1 rfl rfl rfl sz127 (by simp only [zs,zr,zm,za,zb,zu,zw,zi,zt,zd,zc,zn, *]<;>first | done | omega) ?_
  simp only [List.set_cons_zero,List.set_cons_succ]
  refine vl_nil<|(qn_n (bl_n (th_n ?_)))
  refine VC_region<|vl_v (q_add_n (q:=1) rfl rfl (by omega)) rfl<|vl_v (q_move rfl) rfl<|vl_nil<|th_n<|⟨k+1,by omega,by omega,(kp [0,1,2,3,4,14,15] rfl),fun w H=>St.pickR 2 H (ks:=[1]) (by decide) (by decide) rfl rfl⟩
 ·skip
  have ht16:=of_decide_eq_false ht16
  obtain rfl:k=2:=by omega
  refine VC_exit<|(th_x (th_x (bl_xs ?_)))
  refine ⟨_,res0 rfl,?_⟩
  exact ⟨rfl,rfl⟩
theorem sl_arr {S:List Nat} {w0 w:World} {L:List Res} {b:Nat} {T:TypeId} {l:List UInt8} (k o:Nat) (H:St S w0 L w) (hk:L[k]?=some (.blk b T (bys l))):SlAt w (some ⟨b,o,none⟩) (bys (l.drop o)):=by
 rw [← bys_drop]
 exact (H.blk hk).sl o
theorem beginC_calls (k nn:List UInt8) (nu:UInt32) (hk:k.length=32) (hn:nn.length=12) (w:World) :
 Calls Tryz.prog 122 #[.agg (bys k).toArray,.agg (bys nn).toArray,vU32 nu] w fun e w'=>e=.returned (.agg (u32s (begC k nn nu)).toArray)∧Kept [] w w':=by
 refine enter (n:=35) (R:=fun e L=>e=.returned (.agg (u32s (begC k nn nu)).toArray)) [.agg (bys k).toArray,.agg (bys nn).toArray,vU32 nu] F122 rfl rfl rfl (St.refl w) ?_ (fun e w' L' h H=>⟨h,H.kept⟩)
 refine VC_seq<|VC_region<|l_boxA rfl rfl<|fun b3=>l_boxA rfl rfl<|fun b4=>l_allocA zr227 rfl<|fun b6=>vl_nil<|th_n<|VC_seq<|VC_region<|vl_v (q_move rfl) rfl<|vl_v (q_build (c':=u32s (begZ nu)) rfl (by kernel_rfl)) rfl<|l_allocA zr227 rfl ?_
 intro b7
 refine l_storeA 0 rfl rfl rfl sz227 (by rfl) (by with_reducible first | exact bys_one _ | exact u32s_one _ | exact u64s_one _ | exact i64s_one _ | exact n64s_one _ | assumption) (by simp only [zs,zr,zm,za,zb,zu,zw,zi,zt,zd,zc,zn, *]<;>first | done | omega) ?_
 simp only [List.set_cons_zero,List.set_cons_succ]
 refine vl_nil<|th_n<|VC_seq<|VC_seq<|VC_region<|vl_v (q_move rfl) rfl<|vl_nil<|th_n<|VC_block<|VC_loop (ι:=Nat) (fun k'=>k'≤8) (fun k'=>[(3,vP b3 0),(4,vP b4 0),(6,vP b6 0),(7,vP b7 0),(12,vN k')]) (fun k'=>[.blk b7 227 (u32s (begK k nu k')),.blk b6 227 (u32s (List.replicate 16 0)),.blk b4 211 (bys nn),.blk b3 33 (bys k)]) (fun k'=>8-k') 0 (by omega) (kp [3,4,6,7,12] rfl) (fun w H=>H) ?_
 rintro k' hp
 have hl:=begK_length k nu k'
 refine VC_seq<|VC_region<|vl_v (q_lss_n (q:=8) U3 rfl rfl) rfl<|vl_nil<|th_n<|VC_seq<|VC_cond rfl (fun ht13=>?_) (fun ht13=>?_)
 ·skip
  have ht13:=of_decide_eq_true ht13
  refine VC_skip<|th_n<|VC_seq<|VC_block<|VC_seq<|VC_region<|vl_v (q_move rfl) rfl<|vl_v (q_assign rfl) rfl<|vl_nil<|th_n<|VC_region<|vl_v (q_move rfl) rfl ?_
  refine vl_v (q_add_n (p:=4) rfl rfl (by omega)) rfl<|vl_v (q_move rfl) rfl<|vl_v (q_mul_n (p:=4) rfl rfl (by omega)) rfl ?_
  refine vl_v (q_slcA U33 sz5 rfl ⟨_,rfl⟩ rfl rfl (.inl rfl) (by omega) (by omega) (by omega) (by omega) (by (try simp only [Nat.mul_one,Nat.zero_add,Nat.zero_mul,Nat.mul_zero,Nat.add_zero])<;>rfl)) rfl ?_
  refine vl_v (q_callV F128 rfl rfl rfl (fun w1 H1=>word_calls (k.drop (4*k')) _ _ _ (by simp;omega) w1 (sl_arr 3 _ H1 rfl) (by simp;omega) (by simp;omega) (by simp;omega))) rfl<|vl_v (q_idxA U227 sz127 rfl rfl (by omega) (r:=_) (by rw [Nat.mul_one,Nat.zero_add])) rfl<|l_stU32 0 rfl rfl rfl sz127 (by omega) ?_
  simp only [List.set_cons_zero,List.set_cons_succ]
  refine vl_nil<|bl_n<|th_n<|VC_region<|vl_v (q_add_n (q:=1) rfl rfl (by omega)) rfl<|vl_v (q_move rfl) rfl<|vl_nil<|th_n<|⟨k'+1,by omega,by omega,(kp [3,4,6,7,12] rfl),fun w H=>H⟩
 ·skip
  have ht13:=of_decide_eq_false ht13
  obtain rfl:k'=8:=by omega
  refine VC_exit<|(th_x (th_x (bl_xs (th_n ?_))))
  refine VC_seq<|VC_seq<|VC_region<|vl_v (q_move rfl) rfl<|vl_nil<|th_n<|VC_block<|VC_loop (ι:=Nat) (fun j=>j≤3) (fun j=>[(4,vP b4 0),(6,vP b6 0),(7,vP b7 0),(23,vN j)]) (fun j=>[.blk b7 227 (u32s (begN k nn nu j)),.blk b6 227 (u32s (List.replicate 16 0)),.blk b4 211 (bys nn)]) (fun j=>3-j) 0 (by omega) (kp [4,6,7,23] rfl) (fun w H=>St.pick H (ks:=[0,1,2]) (by decide) rfl) ?_
  rintro j hp
  have hl:=begN_length k nn nu j
  refine VC_seq<|VC_region<|vl_v (q_lss_n (q:=3) U3 rfl rfl) rfl<|vl_nil<|th_n<|VC_seq<|VC_cond rfl (fun ht24=>?_) (fun ht24=>?_)
  ·skip
   have ht24:=of_decide_eq_true ht24
   refine VC_skip<|th_n<|VC_seq<|VC_block<|VC_seq<|VC_region<|vl_v (q_move rfl) rfl<|vl_v (q_assign rfl) rfl<|vl_nil<|th_n<|VC_region<|vl_v (q_move rfl) rfl ?_
   refine vl_v (q_add_n (p:=13) rfl rfl (by omega)) rfl<|vl_v (q_move rfl) rfl<|vl_v (q_mul_n (p:=4) rfl rfl (by omega)) rfl ?_
   refine vl_v (q_slcA U211 sz5 rfl ⟨_,rfl⟩ rfl rfl (.inl rfl) (by omega) (by omega) (by omega) (by omega) (by (try simp only [Nat.mul_one,Nat.zero_add,Nat.zero_mul,Nat.mul_zero,Nat.add_zero])<;>rfl)) rfl ?_
   refine vl_v (q_callV F128 rfl rfl rfl (fun w1 H1=>word_calls (nn.drop (4*j)) _ _ _ (by simp;omega) w1 (sl_arr 2 _ H1 rfl) (by simp;omega) (by simp;omega) (by simp;omega))) rfl<|vl_v (q_idxA U227 sz127 rfl rfl (by omega) (r:=_) (by rw [Nat.mul_one,Nat.zero_add])) rfl<|l_stU32 0 rfl rfl rfl sz127 (by omega) ?_
   simp only [List.set_cons_zero,List.set_cons_succ]
   refine vl_nil<|bl_n<|th_n<|VC_region<|vl_v (q_add_n (q:=1) rfl rfl (by omega)) rfl<|vl_v (q_move rfl) rfl<|vl_nil<|th_n<|⟨j+1,by omega,by omega,(kp [4,6,7,23] rfl),fun w H=>H⟩
  ·skip
   have ht24:=of_decide_eq_false ht24
   obtain rfl:j=3:=by omega
   have hl:=begN_length k nn nu 3
   refine VC_exit<|(th_x (th_x (bl_xs (th_n ?_))))
   refine VC_seq<|VC_region<|vl_v (q_loads 0 U227 rfl rfl rfl sz227 (by simp only [zb,zu,zw,zi,za];omega)) rfl ?_
   refine l_storeA 1 rfl rfl rfl sz227 (by simp only [zb,zu,zw,zi,za];omega) (by with_reducible first | exact bys_one _ | exact u32s_one _ | exact u64s_one _ | exact i64s_one _ | exact n64s_one _ | assumption) (by simp only [zs,zr,zm,za,zb,zu,zw,zi,zt,zd,zc,zn, *]<;>first | done | omega) ?_
   simp only [List.set_cons_zero,List.set_cons_succ]
   refine vl_nil<|th_n<|VC_ret ?_
   refine ⟨_,resC1 1 rfl U227 rfl rfl rfl sz227 (by simp only [zb,zu,zw,zi,za];omega),?_⟩
   exact rfl
theorem block_calls (k nn:List UInt8) (nu:UInt32) (hk:k.length=32) (hn:nn.length=12) (w:World) :
 Calls Tryz.prog 115 #[.agg (bys k).toArray,.agg (bys nn).toArray,vU32 nu] w fun e w'=>e=.returned (.agg (bys (block k nn nu)).toArray)∧Kept [] w w':=by
 have hv:=beg_length k nn nu
 refine enter (n:=69) (R:=fun e L=>e=.returned (.agg (bys (block k nn nu)).toArray)) [.agg (bys k).toArray,.agg (bys nn).toArray,vU32 nu] F115 rfl rfl rfl (St.refl w) ?_ (fun e w' L' h H=>⟨h,H.kept⟩)
 refine VC_seq<|VC_region<|l_boxA rfl rfl<|fun b3=>l_boxA rfl rfl<|fun b4=>l_allocA zr179 rfl<|fun b6=>vl_nil<|th_n<|VC_seq<|VC_region<|vl_v (q_loads 2 U33 rfl rfl rfl sz33 (by simp only [zb,zu,zw,zi,za];omega)) rfl<|vl_v (q_loads 1 U211 rfl rfl rfl sz211 (by simp only [zb,zu,zw,zi,za];omega)) rfl<|vl_v (q_move rfl) rfl ?_
 refine vl_v (q_callV F122 rfl rfl rfl (fun w1 H1=>beginC_calls k nn nu hk hn w1)) rfl<|l_allocA zr227 rfl<|fun b7=>?_
 refine l_storeA 0 rfl rfl rfl sz227 (by simp only [zb,zu,zw,zi,za];omega) (by with_reducible first | exact bys_one _ | exact u32s_one _ | exact u64s_one _ | exact i64s_one _ | exact n64s_one _ | assumption) (by simp only [zs,zr,zm,za,zb,zu,zw,zi,zt,zd,zc,zn, *]<;>first | done | omega) ?_
 simp only [List.set_cons_zero,List.set_cons_succ]
 refine vl_nil<|th_n<|VC_seq<|VC_region<|vl_v (q_loads 0 U227 rfl rfl rfl sz227 (by simp only [zb,zu,zw,zi,za];omega)) rfl<|l_allocA zr227 rfl<|fun b8=>?_
 refine l_storeA 0 rfl rfl rfl sz227 (by simp only [zb,zu,zw,zi,za];omega) (by with_reducible first | exact bys_one _ | exact u32s_one _ | exact u64s_one _ | exact i64s_one _ | exact n64s_one _ | assumption) (by simp only [zs,zr,zm,za,zb,zu,zw,zi,zt,zd,zc,zn, *]<;>first | done | omega) ?_
 simp only [List.set_cons_zero,List.set_cons_succ]
 refine vl_nil<|th_n<|VC_seq<|VC_seq<|VC_region<|vl_v (q_move rfl) rfl<|vl_nil<|th_n<|VC_block<|VC_loop (ι:=Nat) (fun r=>r≤10) (fun r=>[(6,vP b6 0),(7,vP b7 0),(8,vP b8 0),(18,vN r)]) (fun r=>[.blk b8 227 (u32s (rnd (begC k nn nu) r)),.blk b7 227 (u32s (begC k nn nu)),.blk b6 179 (bys (List.replicate 64 0))]) (fun r=>10-r) 0 (by omega) (kp [6,7,8,18] rfl) (fun w H=>St.pick H (ks:=[0,1,2]) (by decide) rfl) ?_
 rintro r hp
 have hr:=(rnd_length (begC k nn nu) r).trans hv
 refine VC_seq<|VC_region<|vl_v (q_lss_n (q:=10) U3 rfl rfl) rfl<|vl_nil<|th_n<|VC_seq<|VC_cond rfl (fun ht19=>?_) (fun ht19=>?_)
 ·skip
  have ht19:=of_decide_eq_true ht19
  refine VC_skip<|th_n<|VC_seq<|VC_block<|VC_seq<|VC_seq<|VC_region<|vl_v (q_move rfl) rfl<|vl_nil<|th_n<|VC_block<|VC_loop (ι:=Nat) (fun i=>i≤4) (fun i=>[(6,vP b6 0),(7,vP b7 0),(8,vP b8 0),(18,vN r),(20,vN i)]) (fun i=>[.blk b8 227 (u32s (cols (rnd (begC k nn nu) r) i)),.blk b7 227 (u32s (begC k nn nu)),.blk b6 179 (bys (List.replicate 64 0))]) (fun i=>4-i) 0 (by omega) (kp [6,7,8,18,20] rfl) (fun w H=>H) ?_
  rintro i hp
  have hi:=(cols_length (rnd (begC k nn nu) r) i).trans hr
  refine VC_seq<|VC_region<|vl_v (q_lss_n (q:=4) U3 rfl rfl) rfl<|vl_nil<|th_n<|VC_seq<|VC_cond rfl (fun ht21=>?_) (fun ht21=>?_)
  ·skip
   have ht21:=of_decide_eq_true ht21
   refine VC_skip<|th_n<|VC_seq<|VC_block<|VC_seq<|VC_region<|vl_v (q_move rfl) rfl<|vl_v (q_assign rfl) rfl<|vl_nil<|th_n<|VC_region<|vl_v (q_move rfl) rfl ?_
   refine vl_v (q_move rfl) rfl<|vl_v (q_add_n (p:=4) rfl rfl (by omega)) rfl<|vl_v (q_move rfl) rfl<|vl_v (q_add_n (p:=8) rfl rfl (by omega)) rfl<|vl_v (q_move rfl) rfl<|vl_v (q_add_n (p:=12) rfl rfl (by omega)) rfl<|l_callE F123 rfl rfl rfl (fun w1 H1=>quarter_calls (cols (rnd (begC k nn nu) r) i) i (4+i) (8+i) (12+i) b8 hi (by omega) (by omega) (by omega) (by omega) w1 H1) rfl<|vl_nil<|bl_n<|th_n<|VC_region<|vl_v (q_add_n (q:=1) rfl rfl (by omega)) rfl<|vl_v (q_move rfl) rfl ?_
   refine vl_nil<|th_n<|⟨i+1,by omega,by omega,(kp [6,7,8,18,20] rfl),fun w H=>H⟩
  ·skip
   have ht21:=of_decide_eq_false ht21
   obtain rfl:i=4:=by omega
   refine VC_exit<|(th_x (th_x (bl_xs (th_n ?_))))
   refine VC_seq<|VC_region<|vl_v (q_move rfl) rfl<|vl_nil<|th_n<|VC_block<|VC_loop (ι:=Nat) (fun j=>j≤4) (fun j=>[(6,vP b6 0),(7,vP b7 0),(8,vP b8 0),(18,vN r),(32,vN j)]) (fun j=>[.blk b8 227 (u32s (diags (cols (rnd (begC k nn nu) r) 4) j)),.blk b7 227 (u32s (begC k nn nu)),.blk b6 179 (bys (List.replicate 64 0))]) (fun j=>4-j) 0 (by omega) (kp [6,7,8,18,32] rfl) (fun w H=>H) ?_
   rintro j hp
   have hj:=(diags_length (cols (rnd (begC k nn nu) r) 4) j).trans hi
   refine VC_seq<|VC_region<|vl_v (q_lss_n (q:=4) U3 rfl rfl) rfl<|vl_nil<|th_n<|VC_seq<|VC_cond rfl (fun ht33=>?_) (fun ht33=>?_)
   ·skip
    have ht33:=of_decide_eq_true ht33
    refine VC_skip<|th_n<|VC_seq<|VC_block<|VC_seq<|VC_region<|vl_v (q_move rfl) rfl<|vl_v (q_assign rfl) rfl<|vl_nil<|th_n<|VC_region<|vl_v (q_move rfl) rfl ?_
    refine vl_v (q_move rfl) rfl<|vl_v (q_add_n (q:=1) rfl rfl (by omega)) rfl<|vl_v (q_rem_n (q:=4) rfl rfl (by omega)) rfl<|vl_v (q_add_n (p:=4) rfl rfl (by omega)) rfl<|vl_v (q_move rfl) rfl<|vl_v (q_add_n (q:=2) rfl rfl (by omega)) rfl<|vl_v (q_rem_n (q:=4) rfl rfl (by omega)) rfl<|vl_v (q_add_n (p:=8) rfl rfl (by omega)) rfl<|vl_v (q_move rfl) rfl<|vl_v (q_add_n (q:=3) rfl rfl (by omega)) rfl<|vl_v (q_rem_n (q:=4) rfl rfl (by omega)) rfl<|vl_v (q_add_n (p:=12) rfl rfl (by omega)) rfl ?_
    refine l_callE F123 rfl rfl rfl (fun w1 H1=>quarter_calls (diags (cols (rnd (begC k nn nu) r) 4) j) j (4+(j+1) % 4) (8+(j+2) % 4) (12+(j+3) % 4) b8 hj (by omega) (by omega) (by omega) (by omega) w1 H1) rfl<|vl_nil<|bl_n<|th_n<|VC_region<|vl_v (q_add_n (q:=1) rfl rfl (by omega)) rfl<|vl_v (q_move rfl) rfl<|vl_nil<|th_n<|⟨j+1,by omega,by omega,(kp [6,7,8,18,32] rfl),fun w H=>H⟩
   ·skip
    have ht33:=of_decide_eq_false ht33
    obtain rfl:j=4:=by omega
    refine VC_exit<|(th_x (th_x (bl_xs (bl_n (th_n ?_)))))
    refine VC_region<|vl_v (q_add_n (q:=1) rfl rfl (by omega)) rfl<|vl_v (q_move rfl) rfl<|vl_nil<|th_n<|⟨r+1,by omega,by omega,(kp [6,7,8,18] rfl),fun w H=>H⟩
 ·skip
  have ht19:=of_decide_eq_false ht19
  obtain rfl:r=10:=by omega
  refine VC_exit<|(th_x (th_x (bl_xs (th_n ?_))))
  refine VC_seq<|VC_region<|l_allocA zr179 rfl<|fun b11=>vl_nil<|th_n<|VC_seq<|VC_seq<|VC_region<|vl_v (q_move rfl) rfl<|vl_nil<|th_n<|VC_block ?_
  refine VC_loop (ι:=Nat) (fun q=>q≤16) (fun q=>[(6,vP b6 0),(7,vP b7 0),(8,vP b8 0),(11,vP b11 0),(51,vN q)]) (fun q=>[.blk b11 179 (bys (outP (begC k nn nu) (rnd (begC k nn nu) 10) q++List.replicate (64-4*q) 0)),.blk b8 227 (u32s (rnd (begC k nn nu) 10)),.blk b7 227 (u32s (begC k nn nu)),.blk b6 179 (bys (List.replicate 64 0))]) (fun q=>16-q) 0 (by omega) (kp [6,7,8,11,51] rfl) (fun w H=>H) ?_
  rintro q hp
  have ho:=outP_length (begC k nn nu) (rnd (begC k nn nu) 10) q
  refine VC_seq<|VC_region<|vl_v (q_lss_n (q:=16) U3 rfl rfl) rfl<|vl_nil<|th_n<|VC_seq<|VC_cond rfl (fun ht52=>?_) (fun ht52=>?_)
  ·skip
   have ht52:=of_decide_eq_true ht52
   refine VC_skip<|th_n<|VC_seq<|VC_block<|VC_seq<|VC_region<|vl_v (q_move rfl) rfl<|vl_v (q_assign rfl) rfl<|vl_nil<|th_n ?_
   have hx1:=UInt32.toNat_lt ((begC k nn nu).getD q 0+(rnd (begC k nn nu) 10).getD q 0)
   refine VC_drawM 12 [[],[0],[1],[],[3],[4],[],[6],[7],[5,8],[9],[10],[2,11]] [[],[0],[0,1],[],[3],[3,4],[],[6],[6,7],[3,4,5,6,7,8],[3,4,5,6,7,8,9],[3,4,5,6,7,8,9,10],[0,1,2,3,4,5,6,7,8,9,10,11]] rfl (by kernel_rfl)<|qm_v (fun xs hx=>q_move rfl)<|qm_v (fun xs hx=>q_mul_n (p:=4) rfl rfl (by omega)) ?_
   refine qm_v (fun xs hx=>q_slcA U179 sz5 rfl ⟨_,rfl⟩ rfl rfl (.inl rfl) (by omega) (by omega) (by omega) (by omega) (by (try simp only [Nat.mul_one,Nat.zero_add,Nat.zero_mul,Nat.mul_zero,Nat.add_zero])<;>rfl)) ?_
   refine qm_v (fun xs hx=>q_move rfl)<|qm_v (fun xs hx=>q_idxA U227 sz127 rfl rfl (by omega) (r:=_) (by rw [Nat.mul_one,Nat.zero_add]))<|qm_v (fun xs hx=>q_load 2 U127 rfl rfl rfl (u32s_at (by omega)))<|qm_v (fun xs hx=>q_move rfl)<|qm_v (fun xs hx=>q_idxA U227 sz127 rfl rfl (by omega) (r:=_) (by rw [Nat.mul_one,Nat.zero_add]))<|qm_v (fun xs hx=>q_load 1 U127 rfl rfl rfl (u32s_at (by omega)))<|qm_v (fun xs hx=>q_add_u32 rfl rfl)<|qm_v (fun xs hx=>q_conv_k (r:=(((begC k nn nu).getD q 0+(rnd (begC k nn nu) 10).getD q 0).toNat:Int)) U127 U78 rfl (by rw [IntKind.wrap_u64];omega))<|qm_a (fun xs hx=>q_callR F69 rfl rfl rfl (fun w1 H1=>low_calls _ 4 4 (by decide) (by decide) w1))<|qm_end<|fun xs hx=>?_
   obtain ⟨⟨A65,c65,e65,hc65,hm65⟩,_⟩:=hx
   simp only [e65]
   simp only [resT,nRow,nBlk,nRowT,tupAt_0,List.append_assoc,List.nil_append,List.append_nil,List.cons_append,List.singleton_append,e65]
   refine VL.keep (kp [6,7,8,11,51,52,12,56,65] rfl) ?_
   refine l_copy 1 rfl rfl rfl U22 U22 sz5 (Reads.row 0 rfl) (by rfl) (by with_reducible first | exact bys_one _ | exact u32s_one _ | exact u64s_one _ | exact i64s_one _ | exact n64s_one _ | assumption) (by simp only [zs,zr,zm,za,zb,zu,zw,zi,zt,zd,zc,zn, *]<;>first | done | omega) rfl ?_
   simp only [List.set_cons_zero,List.set_cons_succ]
   rw [outP_copy _ _ q ht52]
   refine vl_nil<|(qn_n (bl_n (th_n ?_)))
   refine VC_region<|vl_v (q_add_n (q:=1) rfl rfl (by omega)) rfl<|vl_v (q_move rfl) rfl<|vl_nil<|th_n<|⟨q+1,by omega,by omega,(kp [6,7,8,11,51] rfl),fun w H=>St.pick H (ks:=[1,2,3,4]) (by decide) rfl⟩
  ·skip
   have ht52:=of_decide_eq_false ht52
   obtain rfl:q=16:=by omega
   rw [show List.replicate (64-4*16) (0:UInt8)=[] from rfl,List.append_nil]
   refine VC_exit<|(th_x (th_x (bl_xs (th_n ?_))))
   refine VC_seq<|VC_region<|vl_v (q_loads 0 U179 rfl rfl rfl sz179 (by simp only [zb,zu,zw,zi,za];omega)) rfl ?_
   refine l_storeA 3 rfl rfl rfl sz179 (by simp only [zb,zu,zw,zi,za];omega) (by with_reducible first | exact bys_one _ | exact u32s_one _ | exact u64s_one _ | exact i64s_one _ | exact n64s_one _ | assumption) (by simp only [zs,zr,zm,za,zb,zu,zw,zi,zt,zd,zc,zn, *]<;>first | done | omega) ?_
   simp only [List.set_cons_zero,List.set_cons_succ]
   refine vl_nil<|th_n<|VC_ret ?_
   refine ⟨_,resC1 3 rfl U179 rfl rfl rfl sz179 (by simp only [zb,zu,zw,zi,za];omega),?_⟩
   exact rfl
theorem ofNat_succ32 (n:UInt32) (j:Nat):n+UInt32.ofNat j+UInt32.ofNat 1=n+UInt32.ofNat (j+1):=by
 rw [UInt32.add_assoc]
 congr 1
 exact (UInt32.ofNat_add j 1).symm
theorem turn_calls (k nn:List UInt8) (nu:UInt32) (b:List UInt8) (A:Option Addr) (c:Nat) (hk:k.length=32) (hn:nn.length=12) (w:World) (hA:SlAt w A (bys b)) (hc:b.length≤c) (hb:b.length≤100000) :
 Calls Tryz.prog 106 #[.agg (bys k).toArray,.agg (bys nn).toArray,vU32 nu,.slice A b.length c] w fun e w'=>∃ v,e=.returned v∧St [] w [.row 5 1 v b.length (bys (turnB k nn nu b))] w':=by
 refine enter (n:=45) (R:=fun e L=>∃ v M,e=.returned v∧L=.row 5 1 v b.length (bys (turnB k nn nu b))::M) [.agg (bys k).toArray,.agg (bys nn).toArray,vU32 nu,.slice A b.length c] F106 rfl rfl rfl (St.refl w) ?_ endRow
 refine VC_seq ?_
 refine VC_region ?_
 refine l_boxA rfl rfl ?_
 intro b4
 refine l_boxA rfl rfl ?_
 intro b5
 refine vl_v (q_assign rfl) rfl ?_
 refine vl_nil ?_
 refine (th_n ?_)
 refine VC_seq ?_
 refine VC_region ?_
 refine vl_v (q_move rfl) rfl ?_
 refine vl_v (q_lenS U22 rfl) rfl ?_
 refine l_room U22 in5 rfl rfl (by omega) (by unfold maxLen;omega) rfl ?_
 intro v16
 refine vl_v (q_assign rfl) rfl ?_
 refine vl_nil ?_
 refine (th_n ?_)
 refine VC_seq ?_
 refine VC_block ?_
 refine VC_loop (ι:=Nat × Option Addr × Nat × Value) (fun q=>SlAt w q.2.1 (bys (b.drop (64*q.1)))∧b.length-64*q.1≤q.2.2.1) (fun q=>[(2,vU32 (nu+UInt32.ofNat q.1)),(3,.slice q.2.1 (b.length-64*q.1) q.2.2.1),(4,vP b4 0),(5,vP b5 0),(9,q.2.2.2)]) (fun q=>[.row 5 1 q.2.2.2 (min (64*q.1) b.length) (bys (tb (ks k nn nu) b (min (64*q.1) b.length))),.blk b5 211 (bys nn),.blk b4 33 (bys k)]) (fun q=>b.length-64*q.1) (0,A,c,v16) (⟨hA,by omega⟩) (Sub.cons (s:=2) (by rw [show nu+UInt32.ofNat 0=nu from UInt32.add_zero nu];rfl) (Sub.cons (s:=3) rfl (Sub.cons (s:=4) rfl (Sub.cons (s:=5) rfl (Sub.cons (s:=9) rfl (Sub.nil _)))))) (fun w' H=>H.pick (ks:=[0,1,2]) (by decide) (by simp [PBYtfpdnpppcoomnaaGreat.pick,tb,bys])) ?_
 rintro ⟨j,B,d,v⟩ hp
 obtain ⟨hB,hd⟩:=hp
 simp only at hB hd
 refine VC_seq ?_
 refine VC_seq ?_
 refine VC_region ?_
 refine vl_v (q_move rfl) rfl ?_
 refine vl_v (q_lenS U22 rfl) rfl ?_
 refine vl_v (q_gtr_n (q:=0) U3 rfl rfl) rfl ?_
 refine vl_nil ?_
 refine (th_n ?_)
 refine VC_cond rfl (fun ht19=>?_) (fun ht19=>?_)
 ·skip
  have ht19:=of_decide_eq_true ht19
  have hbl:=ks_length k nn nu j
  have hbk:=block_length k nn (nu+UInt32.ofNat j)
  have hB2:SlAt w (adv B (min (b.length-64*j) 64) d 1) (bys (b.drop (64*(j+1)))):=by
   have:=hB.adv (l:=min (b.length-64*j) 64) (m:=d) (sz:=1) (by rw [bys_length,List.length_drop];omega)
   rw [bys_drop,List.drop_drop,Nat.mul_one] at this
   by_cases h64:64≤b.length-64*j
   ·rw [show 64*j+min (b.length-64*j) 64=64*(j+1) by omega] at this;exact this
   ·rw [List.drop_eq_nil_of_le (by omega)] at this;rw [List.drop_eq_nil_of_le (by omega)];exact this
  refine VC_skip ?_
  refine (th_n ?_)
  refine VC_seq ?_
  refine VC_block ?_
  refine VC_seq ?_
  refine VC_region ?_
  refine vl_v (q_loads 2 U33 rfl rfl rfl sz33 (by simp only [zb,zu,zw,zi,za];omega)) rfl ?_
  refine vl_v (q_loads 1 U211 rfl rfl rfl sz211 (by simp only [zb,zu,zw,zi,za];omega)) rfl ?_
  refine vl_v (q_move rfl) rfl ?_
  refine vl_v (q_callV F115 rfl rfl rfl (fun w1 H1=>block_calls k nn (nu+UInt32.ofNat j) hk hn w1)) rfl ?_
  refine l_allocA zr179 rfl ?_
  intro b10
  refine l_storeA 0 rfl rfl rfl sz179 (by simp only [zb,zu,zw,zi,za];omega) (by with_reducible first | exact bys_one _ | exact u32s_one _ | exact u64s_one _ | exact i64s_one _ | exact n64s_one _ | assumption) (by simp only [zs,zr,zm,za,zb,zu,zw,zi,zt,zd,zc,zn, *]<;>first | done | omega) ?_
  simp only [List.set_cons_zero,List.set_cons_succ]
  refine vl_nil ?_
  refine (th_n ?_)
  refine VC_seq ?_
  refine VC_region ?_
  refine vl_v (q_move rfl) rfl ?_
  refine vl_v (q_lenS U22 rfl) rfl ?_
  refine vl_v (q_min (q:=64) rfl rfl) rfl ?_
  refine vl_v (q_assign rfl) rfl ?_
  refine vl_nil ?_
  refine (th_n ?_)
  refine VC_seq ?_
  have e1:((b.drop (64*j)).take (min (b.length-64*j) 64)).length=min (b.length-64*j) 64:=by rw [List.length_take,List.length_drop];omega
  have e2:((ks k nn nu j).take (min (b.length-64*j) 64)).length=min (b.length-64*j) 64:=by rw [List.length_take,hbl];omega
  refine VC_drawM 10 [[],[],[0,1],[],[3],[2,4],[5],[6],[6],[7,5,0,1,2,3,4,6],[8,9,0,1,2,3,4,5,6,7]] [[],[],[0,1],[],[3],[0,1,2,3,4],[0,1,2,3,4,5],[0,1,2,3,4,5,6],[0,1,2,3,4,5,6],[0,1,2,3,4,5,6,7],[0,1,2,3,4,5,6,7,8,9]] rfl (by kernel_rfl) ?_
  refine qm_v (fun xs hx=>q_move rfl) ?_
  refine qm_v (fun xs hx=>q_move rfl) ?_
  refine qm_v (fun xs hx=>q_slcS0 U22 sz5 rfl ⟨_,rfl⟩ rfl (.inl rfl) (by omega) (by omega)) ?_
  refine qm_v (fun xs hx=>q_move rfl) ?_
  refine qm_v (fun xs hx=>q_slcA U179 sz5 rfl rfl ⟨_,rfl⟩ rfl (.inl rfl) (by omega) (by omega) (by omega) (by omega) (by (try simp only [Nat.mul_one,Nat.zero_add,Nat.zero_mul,Nat.mul_zero,Nat.add_zero])<;>rfl)) ?_
  refine qm_a (fun xs hx=>q_callT F116 rfl rfl rfl (fun w1 H1=>by have h:=xor_calls ((b.drop (64*j)).take (min (b.length-64*j) 64)) ((ks k nn nu j).take (min (b.length-64*j) 64)) B (some ⟨b10,0,none⟩) d 64 w1 (by rw [← bys_take];exact (Reads.old hB w1 H1).take _) (by rw [← bys_take];exact ((H1.blk (k:=0) rfl).sl0).take _) (by rw [e1];omega) (by rw [e2];omega) (by rw [e1];omega) (by rw [e1,e2]);rw [e1,e2] at h;exact h)) ?_
  refine qm_x [5] (fun ys=>ys 5) rfl (fun xs=>trivial) (fun xs hx=>q_move rfl) ?_
  refine qm_x [5] (fun ys=>tupAt (ys 5) 0) rfl (fun xs=>trivial) (fun xs hx=>q_extX rfl (let ⟨_,_,h,_⟩:=hx.1 rfl;⟨_,_,h,rfl⟩)) ?_
  refine qm_x [5] (fun ys=>tupAt (ys 5) 1) rfl (fun xs=>trivial) (fun xs hx=>q_extX rfl (let ⟨_,_,h,_⟩:=hx.1 rfl;⟨_,_,h,rfl⟩)) ?_
  refine qm_x [5] (fun ys=>tupAt (ys 5) 0) rfl (fun xs=>trivial) (fun xs hx=>q_assign rfl) ?_
  refine qm_end ?_
  intro xs hx
  obtain ⟨⟨A35,c35,e35,hc35,hm35⟩,_⟩:=hx
  simp only [show mask [5] xs 5=xs 5 from rfl,e35,tupAt_0,tupAt_1]
  simp only [resT,nRow,nBlk,nRowT,tupAt_0,List.append_assoc,List.nil_append,List.append_nil,List.cons_append,List.singleton_append,e35]
  refine VL.keep (kp [2,3,4,5,9,19,10,11,37,12] rfl) ?_
  refine vl_v (q_assign rfl) rfl ?_
  refine vl_nil ?_
  refine (qn_n (th_n ?_))
  refine VC_seq ?_
  refine VC_region ?_
  have hxl:(bys (xorB ((b.drop (64*j)).take (min (b.length-64*j) 64)) ((ks k nn nu j).take (min (b.length-64*j) 64)))).length=min (b.length-64*j) 64*1:=by rw [bys_length];simp [xorB];omega
  refine vl_v (q_move rfl) rfl ?_
  refine vl_v (q_move rfl) rfl ?_
  refine l_append 2 rfl rfl rfl U22 U22 in5 rfl (by decide) (Reads.row 0 rfl) (by omega) (by with_reducible first | exact bys_one _ | exact u32s_one _ | exact u64s_one _ | exact i64s_one _ | exact n64s_one _ | assumption) (by omega) (by omega) rfl ?_
  intro A40 c40 hc40
  simp only [List.set_cons_zero,List.set_cons_succ,← bys_append,← u32s_append,← u64s_append,← i64s_append,List.nil_append,Nat.zero_add]
  rw [show min (64*j) b.length=64*j by omega,tb_chunk (ks k nn nu) (ks_length k nn nu) b j _ (by omega) (by omega)]
  refine vl_v (q_assign rfl) rfl ?_
  refine vl_nil ?_
  refine (th_n ?_)
  refine VC_region ?_
  refine vl_v (q_move rfl) rfl ?_
  refine vl_v (q_move rfl) rfl ?_
  refine vl_v (q_slcS U22 sz5 rfl ⟨_,rfl⟩ rfl rfl (.inl rfl) (by omega) (by omega) (by omega)) rfl ?_
  refine vl_v (q_assign rfl) rfl ?_
  refine vl_nil ?_
  refine (bl_n (th_n ?_))
  refine VC_region ?_
  refine vl_v (q_move rfl) rfl ?_
  refine vl_v (q_add_u32 (q:=UInt32.ofNat 1) rfl rfl) rfl ?_
  refine vl_v (q_assign rfl) rfl ?_
  refine vl_nil ?_
  refine (th_n ?_)
  rw [show 64*j+min (b.length-64*j) 64=min (64*(j+1)) b.length by omega]
  refine ⟨(j+1,adv B (min (b.length-64*j) 64) d 1,d-min (b.length-64*j) 64,Value.slice A40 (min (64*(j+1)) b.length) c40),⟨hB2,by simp only;omega⟩,by simp only;omega,(Sub.cons (s:=2) (by show _=some (vU32 (nu+UInt32.ofNat (j+1)));rw [← ofNat_succ32 nu j];rfl) (Sub.cons (s:=3) (by show _=some (Value.slice _ (b.length-64*(j+1)) _);rw [show b.length-64*(j+1)=b.length-64*j-min (b.length-64*j) 64 by omega];rfl) (Sub.cons (s:=4) rfl (Sub.cons (s:=5) rfl (Sub.cons (s:=9) rfl (Sub.nil _)))))),fun w H=>St.pick H (ks:=[2,3,4]) (by decide) rfl⟩
 ·skip
  have ht19:=of_decide_eq_false ht19
  refine VC_exit ?_
  refine (th_x (th_x (bl_xs (th_n ?_))))
  refine VC_seq ?_
  refine VC_region ?_
  refine vl_v (q_move rfl) rfl ?_
  refine vl_v (q_assign rfl) rfl ?_
  refine vl_nil ?_
  refine (th_n ?_)
  refine VC_ret ?_
  refine ⟨_,res1 rfl rfl,?_⟩
  refine ⟨v,[.blk b5 211 (bys nn),.blk b4 33 (bys k)],rfl,?_⟩
  simp only at ht19 ⊢
  rw [show min (64*j) b.length=b.length by omega]
  rfl
theorem join_calls (ls:List (List UInt8)) (v0:Value) (w:World) (hv:RowsAt w v0 ls) (hb:(joinB ls).length≤70368744177664) (hn:ls.length≤140737488355328) :
 Calls Tryz.prog 47 #[v0] w fun e w'=>∃ v,e=.returned v∧St [] w [.row 5 1 v (joinB ls).length (bys (joinB ls))] w':=by
 have H:=(St.refl w).addNil 5 1
 obtain ⟨A,c,vs,rfl,hc,hA,hvl,hvs⟩:=hv
 have hvl':=Lib.hid hvl
 have hvs':=Lib.hid hvs
 clear hvl hvs
 go_enter F47,Tryz.ntmps47
 go_wp2_with (with_reducible refine stop_box ?_)
 go_loopw [3,8] (fun v i wr=>∃ (k n:Nat),k≤ls.length∧i=.int .i64 k∧Hid (n=(joinB (ls.take k)).length)∧St [] w [.row 5 1 v n (bys (joinB (ls.take k)))] wr) (fun _ i _=>ls.length-(intOf i).toNat)
 case atStart=>exact ⟨0,0,Nat.zero_le _,rfl,rfl,H⟩
 case round =>
  clear H
  obtain ⟨k,n,hk,rfl,hnn,H⟩:=hrel
  by_cases hlt:k<ls.length
  ·obtain ⟨b,hx⟩:∃ x,ls[k]?=some x:=⟨_,List.getElem?_eq_getElem (by omega)⟩
   obtain ⟨u,hu⟩:∃ x,vs[k]?=some x:=⟨_,List.getElem?_eq_getElem (by have:=hvl'.out;omega)⟩
   obtain ⟨ad,rfl,hcell⟩:=(H.sl0 hA) k _ hu
   obtain ⟨B,d,rfl,hd,hB⟩:=hvs'.out k u b hu hx
   have hjs:joinB (ls.take (k+1))=joinB (ls.take k)++highB b.length 4++b:=by
    rw [List.take_add_one,hx]
    exact joinB_snoc _ _
   have hjl:(joinB (ls.take (k+1))).length≤(joinB ls).length:=by
    have:=List.take_append_drop (k+1) ls
    have h2:∀ (x y:List (List UInt8)),joinB (x++y)=joinB x++joinB y:=by
     intro x y
     induction x with
     | nil=>rfl
     | cons a x ih=>simp [joinB,ih]
    have h3:=congrArg (fun q=>(joinB q).length) this
    simp only [h2,List.length_append] at h3
    omega
   have hbl:n+4+b.length≤70368744177664:=by
    have:=hnn.out
    rw [hjs] at hjl
    simp [highB_length] at hjl
    omega
   have hbx:Hid (ls[k]?=some b∧vs[k]?=some _):=⟨hx,hu⟩
   have hjs':=Lib.hid hjs
   clear hx hu hjs hjl
   go_wp2_with (with_reducible refine stop_load ?_)
   refine wpl_want rfl (opw_load U22 rfl rfl hcell ?_)
   clear hcell
   go_wp2_with (with_reducible refine stop_box ?_)
   refine (high_calls b.length 4 4 rfl (by omega) wr).mono ?_
   rintro e w1 ⟨hv,rfl,H1⟩
   obtain ⟨hA1,hc1,rfl,hcc,_,hhs⟩:=(H1.get (k:=0) rfl).slice
   have H2:=H.keep H1.kept
   clear H
   go_wp2_with (with_reducible refine stop_append ?_)
   refine wpl_want rfl (opw_append (k:=0) H2 rfl U22 U22 u8info rfl (by omega) rfl rfl hhs (by simp [bys,highB_length]) (bys_one _) (by omega) (by omega) ?_)
   intro w3 v3 H3
   have hB3:=(H3.sl0 hB)
   clear H1 H2 hhs
   go_wp2_with (with_reducible refine stop_append ?_)
   refine wpl_want rfl (opw_append (k:=0) H3 rfl U22 U22 u8info rfl (by omega) rfl rfl hB3 (by simp [bys]) (bys_one _) (by omega) (by omega) ?_)
   intro w4 v4 H4
   clear H3
   go_wp2_with (with_reducible refine stop_box ?_)
   refine ⟨⟨k+1,n+4+b.length,by omega,by go_num,?_,?_⟩,by simp [intOf];omega⟩
   ·show _=_
    rw [hjs'.out,hnn.out]
    simp [highB_length]
    omega
   ·rw [hjs'.out,bys_append,bys_append]
    exact H4
  ·go_wp2_with (with_reducible refine stop_box ?_)
   have:k=ls.length:=by omega
   subst this
   go_ret
   rw [List.take_length] at H hnn
   have:=hnn.out
   subst this
   exact ⟨_,rfl,H⟩
theorem rowsinfo:(Tryz.prog.info? 22).map (fun i=>(i.zero,i.size,i.bytes))=some (some (.slice none 0 0),1,24):=by kernel_rfl
def inner (vs:List Value) (ls:List (List UInt8)):List Res:=List.zipWith (fun u l=>.row 5 1 u l.length (bys l)) vs ls
def PartPost (P:Program) (b0:List UInt8) (w:World) (e:Ending) (w':World):Prop :=
 (partOf b0=none∧e=.returned (.tuple #[.slice none 0 0,.int .i64 3])∧Kept [] w w') ∨
 (∃ ls v vs,partOf b0=some ls∧e=.returned (.tuple #[v,.int .i64 0])∧vs.length=ls.length∧St [] w (.row 22 1 v ls.length vs::inner vs ls) w')
theorem part_calls (b0:List UInt8) (A0:Option Addr) (c0:Nat) (w:World) (hA0:SlAt w A0 (bys b0)) (hc0:b0.length≤c0) (hl:b0.length≤1000000000) :
 Calls Tryz.prog 48 #[.slice A0 b0.length c0] w (PartPost Tryz.prog b0 w):=by
 have H:=(St.refl w).addNil 22 1
 go_enter F48,Tryz.ntmps48
 go_wp2_with (with_reducible refine stop_box ?_)
 go_loopw [0,4] (fun s v wr=>∃ (b:List UInt8) (A:Option Addr) (c:Nat) (ls:List (List UInt8)) (vs:List Value),s=.slice A b.length c∧b.length≤c∧SlAt w A (bys b)∧b.length≤b0.length∧vs.length=ls.length∧ls.length+b.length≤b0.length ∧
  Hid (partOf b0=(partOf b).map (ls++·))∧St [] w (.row 22 1 v ls.length vs::inner vs ls) wr) (fun s _ _=>match s with | .slice _ n _=>n | _=>0)
 case atStart=>exact ⟨b0,A0,c0,[],[],rfl,hc0,hA0,Nat.le_refl _,rfl,by simp,by simp [Hid],H⟩
 case round =>
  clear H hA0 hc0
  obtain ⟨b,A,c,ls,vs,rfl,hc,hA,hb,hvl,hlb,hp,H⟩:=hrel
  have hvl':=Lib.hid hvl
  clear hvl
  by_cases h0:b.length=0
  ·obtain rfl:b=[]:=List.eq_nil_of_length_eq_zero h0
   go_wp2_with (with_reducible refine stop_box ?_)
   go_ret2
   refine .inr ⟨ls,_,vs,?_,rfl,hvl'.out,H⟩
   rw [hp.out,partOf_nil]
   simp
  ·obtain ⟨x,hx⟩:∃ x,b[0]?=some x:=⟨_,List.getElem?_eq_getElem (by omega)⟩
   obtain ⟨ad,rfl,_⟩:=hA 0 _ (by rw [bys_get,hx];rfl)
   clear hx
   have hpos:(0:Int)<(b.length:Int):=by omega
   have hne:Hid (b≠[]):=by rintro rfl;exact h0 rfl
   clear h0
   by_cases h4:b.length<4
   ·go_wp2_with (with_reducible refine stop_box ?_)
    go_ret2
    refine .inl ⟨?_,rfl,H.kept⟩
    rw [hp.out,partOf_short hne.out h4]
    rfl
   ·have hO:∀ B,SlAt wr B (bys ((b.take 4).drop 0))→Calls Tryz.prog 75 #[.slice B (4-0) (c-0)] wr fun e w'=>e=.returned (.int .u64 (ofHigh (b.take 4)))∧wr=w':=by
     intro B hB
     have hO:=ofHigh_calls (b.take 4) B c wr hB (by rw [List.length_take];omega) (by rw [List.length_take];omega)
     rw [List.length_take,Nat.min_eq_left (by omega),List.take_take] at hO
     rw [show min 8 4=4 from rfl] at hO
     exact hO
    have hn:ofHigh (b.take 4)<4294967296:=by
     have:=ofHigh_lt (b.take 4)
     rw [List.length_take,Nat.min_eq_left (by omega)] at this
     exact this
    have hstep:=Lib.hid (partOf_step (b:=b) (by omega))
    have hfar:=Lib.hid (partOf_far (b:=b) (by omega))
    generalize ofHigh (b.take 4)=n at *
    have h4c:4≤c:=by omega
    have h4b:(4:Int)≤(b.length:Int):=by omega
    go_wp2_with (with_reducible refine stop_slice ?_)
    refine wpl_want rfl (opw_sliceB 0 4 b U22 u8size rfl (.inl ⟨rfl,rfl⟩) (.inr ⟨_,_,rfl,rfl⟩) (by omega) h4c hc ?_)
    intro B hB
    have hO':=hO B (hB _ (H.sl0 hA))
    clear hO hB
    go_wp2_with (with_reducible refine stop_box ?_)
    refine hO'.mono ?_
    clear hO'
    rintro e w1 ⟨rfl,rfl⟩
    go_wp2_with (with_reducible refine stop_slice ?_)
    refine wpl_want rfl (opw_sliceB 4 b.length b U22 u8size rfl (.inr ⟨_,_,rfl,rfl⟩) (.inl ⟨rfl,rfl⟩) (by omega) hc hc ?_)
    intro B hB
    rw [List.take_length] at hB
    by_cases hnb:b.length-4<n
    ·go_wp2_with (with_reducible refine stop_box ?_)
     go_ret2
     refine .inl ⟨?_,rfl,H.kept⟩
     rw [hp.out,hfar.out hnb]
     rfl
    ·obtain ⟨I,hI⟩:∃ I,inner vs ls=I:=⟨_,rfl⟩
     rw [hI] at H
     have hI':=Lib.hid hI
     clear hI
     have hst:=Lib.hid (hstep.out (by omega))
     have hnb':(n:Int)≤((b.length-4:Nat):Int):=by omega
     have hnb2:n≤b.length-4:=by omega
     have hnb3:b.length-4≤c-4:=by omega
     clear hstep hfar hnb
     go_wp2_with (with_reducible refine stop_lit ?_)
     refine wpl_want rfl (opw_lit1 [] H U22 u8info (by omega) rfl rfl (by simp) ?_)
     intro w2 nb H2
     go_wp2_with (with_reducible refine stop_slice ?_)
     refine wpl_want rfl (opw_sliceB 0 n (b.drop 4) U22 u8size rfl (.inl ⟨rfl,rfl⟩) (.inr ⟨_,_,rfl,rfl⟩) (by omega) (by omega) (by simp;omega) ?_)
     intro B2 hB2
     have hsl:=hB2 _ (hB _ (H2.sl0 hA))
     rw [List.drop_zero] at hsl
     clear hB2
     go_wp2_with (with_reducible refine stop_append ?_)
     refine wpl_want rfl (opw_append (m:=n) H2 (get_last _ _) U22 U22 u8info rfl (by omega) rfl rfl hsl (by simp [bys];omega) (bys_one _) (by omega) (by omega) ?_)
     intro w3 v3 H3
     rw [set_last] at H3
     obtain ⟨A3,c3,rfl,hc3,hm3,hs3⟩:=(H3.get (get_last _ _)).slice
     clear hs3 hsl H H2
     go_wp2_with (with_reducible refine stop_lit ?_)
     refine wpl_want rfl (opw_lit1 [(0,.slice A3 (0+n) c3)] H3 U23 rowsinfo (by omega) rfl rfl (by simp [Value.oneCell']) ?_)
     intro w4 nb4 H4
     clear H3
     have hs4:=Row.sl (H4.get (get_last _ _))
     go_wp2_with (with_reducible refine stop_append ?_)
     refine wpl_want rfl (opw_append (k:=0) (m:=1) H4 rfl U23 U23 rowsinfo rfl (by omega) rfl rfl hs4 rfl (by simp [fillL,Value.oneCell']) (by omega) (by omega) ?_)
     intro w5 v5 H5
     clear H4 hs4
     go_wp2_with (with_reducible refine stop_slice ?_)
     refine wpl_want rfl (opw_sliceB n (b.length-4) (b.drop 4) U22 u8size rfl (.inr ⟨_,_,rfl,rfl⟩) (.inl ⟨rfl,rfl⟩) hnb2 hnb3 (by simp;omega) ?_)
     intro B3 hB3
     have hsl:=hB3 _ (hB _ hA)
     rw [List.take_of_length_le (by simp)] at hsl
     clear hB3
     go_wp2_with (with_reducible refine stop_box ?_)
     have hlen:b.length-4-n=((b.drop 4).drop n).length:=by simp;omega
     refine ⟨⟨(b.drop 4).drop n,B3,c-4-n,ls++[(b.drop 4).take n],vs++[.slice A3 (0+n) c3],by rw [← hlen],by rw [← hlen];omega,hsl,by rw [← hlen];omega,by have:=hvl'.out;simp [this],by rw [← hlen];simp;omega,?_,?_⟩,by simp;omega⟩
     ·show _=_
      rw [hp.out,hst.out,Option.map_map]
      congr 1
      funext x
      simp
     ·refine H5.sub ?_
      have e:inner (vs++[Value.slice A3 (0+n) c3]) (ls++[(b.drop 4).take n])=I++[.row 5 1 (.slice A3 (0+n) c3) (0+n) (bys ((b.drop 4).take n))]:=by
       unfold inner
       rw [List.zipWith_append hvl'.out,← hI'.out]
       simp [inner]
       omega
      rw [e]
      simp [fillL]
end Go.Proofs.YtfpdnpppcoomnaaGreat
namespace Go.PBYtfpdnpppcoomnaaGreat
open Go Go.RowKit
theorem resTCT {P:Program} {n:Nat} {S:List Nat} {w0:World} {env:Env} {L:List Res} {fn:Func} {s u r:Tmp} {t:TypeId} {dd:TypeDesc} {b sz:Nat} {T:TypeId} {c:List Value} {v x:Value} (k:Nat) (h:fn.results=#[.tmp s,.cell u t,.tmp r]) (hs:look s env=some v) (hu:P.underlying t=some dd) (hd:(match dd with | .struct _ | .array _ _=>true | _=>false)=true) (hb:look u env=some (vP b 0)) (hk:L[k]?=some (.blk b T c)) (hi:(P.info? t).map (·.size)=some sz) (hl:c.length=sz) (hr:look r env=some x) :
 ResE P n S w0 fn env L (.tuple #[v,.agg c.toArray,x]):=fun a w hm H=>by
 have h1:=hm.get s _ hs
 have h3:=hm.get u _ hb
 have h5:=hm.get r _ hr
 have h2:=run_loadVarA hu hd (by rw [hi,hl]) (H.blk hk).sl0
 simp [results,h,Array.getD_eq_getD_getElem?,h1,h3,h5,asAddr,h2]
section
variable {P : Program} {n : Nat} {S : List Nat} {w0 : World} {ops : Array Oper} {Q : QE} {rest : List Oper} {d : Tmp} {ty : TypeId} {pos : String} {af : Array Edge} {env : Env} {L : List Res}
theorem q_idxRdN {t e:TypeId} {x y:Operand} {k:IntKind} {len cap m sz:Nat} {A:Option Addr} {vs:List Value} {g:Option (Nat × Bool)} (hu:P.underlying t=some (.slice e)) (hi:(P.info? e).map (·.size)=some sz) (hx:evalE env x=some (.slice A len cap)) (hy:evalE env y=some (.int k (m:Int))) (hm:m<len) (hr:Reads S w0 L A vs) (hl:m*sz<vs.length) :
 QT P n S w0 { dst:=some d,op:=.indexAddr t x y,type:=ty,pos,after:=af,guard:=g } env L (.val (ptrOf A (m*sz))) :=
 ⟨fun a w hmo H=>by
  obtain ⟨ad,rfl⟩:=(hr w H).some (by omega)
  exact (q_idxS hu hi hx hy hm).run a w hmo H⟩
theorem q_loadsRd {t:TypeId} {dd:TypeDesc} {x:Operand} {A:Option Addr} {o sz:Nat} {vs us:List Value} {g:Option (Nat × Bool)} (hu:P.underlying t=some dd) (hd:(match dd with | .struct _ | .array _ _=>true | _=>false)=true) (hi:(P.info? t).map (·.size)=some sz) (hx:evalE env x=some (ptrOf A o)) (hr:Reads S w0 L A vs) (hv:(vs.drop o).take sz=us) (hl:us.length=sz) (hz:0<sz) :
 QT P n S w0 { dst:=some d,op:=.load t x,type:=ty,pos,after:=af,guard:=g } env L (.val (.agg us.toArray)) :=
 ⟨fun a w hmo H=>by
  have h1:us.length≤vs.length-o:=by rw [← hv,List.length_take,List.length_drop];omega
  obtain ⟨ad,rfl⟩:=(hr w H).some (by omega)
  exact (q_loadsR (ad:=ad.add o) hu hd (by rw [hi,hl]) hx (fun w H=>hv ▸ ((hr w H).drop o).take sz)).run a w hmo H⟩
theorem VC_pickL {c:Code} {ks:List Nat} {M:List Res} (hnd:ks.Nodup) (h:pick L ks=some M) (hc:VC P n S w0 c Q env M):VC P n S w0 c Q env L:=VC_sub hc (Sub.refl _) (fun w H=>H.pick hnd h)
end
section
variable {P : Program} {n : Nat} {S : List Nat} {w0 : World} {Z : List PanicEntry → World → Prop} {ops : Array Oper} {L : List Res} {d : Tmp} {ty : TypeId} {pos : String} {af : Array Edge} {F : (Xs → Xs → Env) → AkP → Prop} {k : Nat} {C ti to xi xo : List Nat} {Ts : List T5} {E : Xs → Xs → Env} {A : AkP} {rest : List Oper}
theorem nBlk_vP (T:TypeId) (c:List Value) (b:Nat):nBlk T c (vP b 0)=[.blk b T c]:=rfl
theorem qp_storeN {t:TypeId} {x y:Operand} {sz:Nat} {T:TypeId} {u:Xs→Xs→Value} {c vs:Xs→Xs→List Value} (hx:∀ xs gs:Xs,factsAP C xs gs A→evalE (E xs gs) x=some (u xs gs)) (hb:∀ xs gs:Xs,factsAP C xs gs A→∃ b,u xs gs=vP b 0) (hy:∀ xs gs:Xs,factsAP C xs gs A→evalE (E xs gs) y=some (.agg (vs xs gs).toArray))
 (hp:∀ xs gs:Xs,factsAP C xs gs A→ownsA (fun j=>to.contains j) xs gs A=nBlk T (c xs gs) (u xs gs)) (hi:(P.info? t).map (·.size)=some sz) (hs:∀ xs gs:Xs,factsAP C xs gs A→(vs xs gs).length=sz) (h1:∀ xs gs:Xs,factsAP C xs gs A→∀ u∈vs xs gs,u.oneCell'=true) (hl:∀ xs gs:Xs,factsAP C xs gs A→(c xs gs).length=sz)
 (h:quietsP P n S w0 Z ops L F (k+1) rest Ts E (A++[(k,C,fun _ _ v _=>v=undef,fun xs gs _ _=>nBlk T (vs xs gs) (u xs gs))])) :
 quietsP P n S w0 Z ops L F k ({ dst:=none,op:=.store t x y,type:=ty,pos,after:=af,guard:=none }::rest) ((C,[],to,xi,xo)::Ts) E A :=
 qp_of (s:=.any (fun _ _ v _=>v=undef) (fun xs gs _ _=>nBlk T (vs xs gs) (u xs gs))) (fun xs gs hf=>.inl ⟨trivial,by
  obtain ⟨b,e⟩:=hb xs gs hf
  have hx':=hx xs gs hf
  rw [hp xs gs hf,selI_none,List.nil_append]
  show QPT P n S w0 _ (E xs gs) _ _ (fun v _=>v=undef) (fun _ _=>nBlk T (vs xs gs) (u xs gs))
  rw [e] at hx' ⊢
  rw [nBlk_vP,nBlk_vP]
  exact ⟨fun a w R hm H=>opw_store (k:=0) H rfl (hm.eval hx') (by rw [hm.eval (hy xs gs hf)];rfl) (by rw [hi,hs xs gs hf]) (by rw [hs xs gs hf,hl xs gs hf];omega) (h1 xs gs hf) fun w' H'=>⟨undef,undef,rfl,fun _=>rfl,rfl,by rw [splice_all (by rw [hs xs gs hf,hl xs gs hf])] at H';exact H'⟩⟩⟩) h
end
end Go.PBYtfpdnpppcoomnaaGreat
namespace Go.Proofs.YtfpdnpppcoomnaaGreat
open Go.RowKit Go.PBYtfpdnpppcoomnaaGreat
abbrev tTurn:List UInt8:=[116,117,114,110]
abbrev tTag:List UInt8:=[116,97,103]
def n12:List UInt8:=List.replicate 12 0
theorem n12_length:n12.length=12:=by simp [n12]
theorem of5_calls (k a g:List UInt8) (ha:keyP k tTurn=a) (hg:keyP k tTag=g) (hk:k.length=32) (w:World) :
 Calls Tryz.prog 92 #[.agg (bys k).toArray] w fun e w'=>e=.returned (.agg (bys (a++g++k)).toArray)∧Kept [] w w':=by
 have la:a.length=32:=by rw [← ha];exact keyP_length ..
 have lg:g.length=32:=by rw [← hg];exact keyP_length ..
 have l64:(a++g).length=64:=by rw [List.length_append];omega
 have l96:(a++g++k).length=96:=by rw [List.length_append];omega
 refine enter (n:=16) (R:=fun e L=>e=.returned (.agg (bys (a++g++k)).toArray)) [.agg (bys k).toArray] F92 rfl rfl rfl (St.refl w) ?_ (fun e w' L' h H=>⟨h,H.kept⟩)
 refine VC_seq<|VC_region<|l_boxA rfl rfl<|fun b1=>l_allocA zr184 rfl<|fun b2=>vl_nil<|th_n<|VC_seq<|VC_region<|vl_v (q_loads 1 U33 rfl rfl rfl sz33 (by simp only [zb,zu,zw,zi,za];omega)) rfl<|l_litA (cs:=strs [tTurn,tTag]) U220 in9 (by decide) rfl rfl rfl rfl (one_all rfl) rfl rfl<|fun b5=>?_
 refine l_callR F105 rfl rfl rfl (fun w1 H1=>keys_calls k [tTurn,tTag] _ 2 2 hk rfl (by simp) (by intro x hx;simp only [List.mem_cons,List.not_mem_nil,or_false] at hx;rcases hx with rfl | rfl<;>decide) w1 (Reads.row 0 rfl w1 H1) (by omega)) rfl ?_
 intro A6 c6 hc6 hm6
 refine vl_v (q_assign rfl) rfl<|vl_nil<|th_n<|VC_seq<|VC_rowBlk (by omega)<|fun bK more eA=>?_
 subst eA
 refine VC_drawV 8 [[],[0],[1],[],[3],[4],[2,5],[],[6,7],[8,0,1,2,3,4,5,6,7]] [[],[0],[0,1],[],[3],[3,4],[0,1,2,3,4,5],[],[0,1,2,3,4,5,6,7],[0,1,2,3,4,5,6,7,8]] rfl (by kernel_rfl)<|qv_v (q_move rfl)<|qv_v (q_idxS0 (m:=0) U208 sz33 rfl rfl (by omega) rfl)<|qv_v (q_loadsAt (vs:=bys a) 0 U33 rfl rfl rfl sz33 (by have h:=keyPart (k:=k) (ps:=[tTurn,tTag]) (more:=more) 0 (by simp) 0 rfl;rw [spreadP,show keyP k ([tTurn,tTag].getD 0 [])=a from ha] at h;exact h) (by rw [bys_length,la]))<|qv_v (q_move rfl)<|qv_v (q_idxS0 (m:=1) U208 sz33 rfl rfl (by omega) rfl)<|qv_v (q_loadsAt (vs:=bys g) 0 U33 rfl rfl rfl sz33 (by have h:=keyPart (k:=k) (ps:=[tTurn,tTag]) (more:=more) 1 (by simp) 32 rfl;rw [spreadP,show keyP k ([tTurn,tTag].getD 1 [])=g from hg] at h;exact h) (by rw [bys_length,lg]))<|qv_v (q_buildS (tot:=64) (sizes:=[32,32]) (c':=bys (a++g)) (by kernel_rfl) rfl rfl rfl rfl (by simp only [List.map_cons,List.map_nil,cellsL,Value.cells,bys_length,la,lg]) (by simp only [flatV,cellsL,Value.cells,List.map_cons,List.map_nil,List.flatten_cons,List.flatten_nil,List.append_nil,bys_append]))<|qv_v (q_loads 3 U33 rfl rfl rfl sz33 (by simp only [zb,zu,zw,zi,za];omega))<|qv_end<|VL.keep (kp [0,1,2,3,13,14] rfl)<|vl_v (q_buildS (tot:=96) (sizes:=[64,32]) (c':=bys (a++g++k)) (by kernel_rfl) rfl rfl rfl rfl (by simp only [List.map_cons,List.map_nil,cellsL,Value.cells,bys_length,l64,hk]) (by simp only [flatV,cellsL,Value.cells,List.map_cons,List.map_nil,List.flatten_cons,List.flatten_nil,List.append_nil,bys_append])) rfl ?_
 refine l_storeA 2 rfl rfl rfl sz184 (by simp only [zb,zu,zw,zi,za];omega) (by with_reducible first | exact bys_one _ | exact u32s_one _ | exact u64s_one _ | exact i64s_one _ | exact n64s_one _ | assumption) (by simp only [zs,zr,zm,za,zb,zu,zw,zi,zt,zd,zc,zn, *]<;>first | done | omega) ?_
 simp only [List.set_cons_zero,List.set_cons_succ]
 refine vl_nil<|qn_n<|th_n<|VC_ret ?_
 refine ⟨_,resC1 2 rfl U184 rfl rfl rfl sz184 (by simp only [zb,zu,zw,zi,za];omega),?_⟩
 exact rfl
theorem turned5_calls (a g k b:List UInt8) (la:a.length=32) (lg:g.length=32) (lk:k.length=32) (B:Option Addr) (lb c:Nat) (hlb:lb=b.length) (hb:b.length≤100000) (w:World) (hB:SlAt w B (bys b)) (hc:b.length≤c) :
 Calls Tryz.prog 93 #[.agg (bys (a++g++k)).toArray,.slice B lb c] w fun e w'=>∃ v,e=.returned v∧St [] w [.row 5 1 v b.length (bys (turnB a n12 0 b))] w':=by
 subst hlb
 have l96:(a++g++k).length=96:=by rw [List.length_append,List.length_append];omega
 refine enter (n:=11) (R:=fun e L=>∃ v M,e=.returned v∧L=.row 5 1 v b.length (bys (turnB a n12 0 b))::M) [.agg (bys (a++g++k)).toArray,.slice B b.length c] F93 rfl rfl rfl (St.refl w) ?_ endRow
 refine VC_seq<|VC_region<|l_boxA rfl rfl<|fun b2=>vl_v (q_assign rfl) rfl<|vl_nil<|th_n<|VC_seq<|VC_region<|vl_v (q_fldA fo184_0 (by decide) rfl rfl) rfl<|vl_v (q_fldA fo182_0 (by decide) rfl rfl) rfl<|vl_v (q_loadsAt (vs:=bys a) 0 U33 rfl rfl rfl sz33 (by rw [List.drop_zero,bys_take,List.append_assoc,List.take_left' la]) (by rw [bys_length,la])) rfl<|vl_v (q_build (c':=bys n12) rfl (by kernel_rfl)) rfl ?_
 refine vl_v (q_move rfl) rfl<|l_callR F106 rfl rfl rfl (fun w1 H1=>turn_calls a n12 0 b B c la n12_length w1 (Reads.old hB w1 H1) hc hb) rfl<|fun A10 c10 hc10 hm10=>vl_v (q_assign rfl) rfl<|vl_nil<|th_n<|VC_ret<|⟨_,res1 rfl rfl,?_⟩
 exact ⟨_,_,rfl,rfl⟩
theorem bsAt_of {w:World} {A:Option Addr} {l:List UInt8} {n c:Nat} (hn:n=l.length) (hc:n≤c) (h:SlAt w A (bys l)):BsAt w (.slice A n c) l:=by
 subst hn
 exact ⟨A,c,rfl,hc,h⟩
theorem rowsAt3 {w:World} {A:Option Addr} {c:Nat} {u1 u2 u3:Value} {l1 l2 l3:List UInt8} (hA:SlAt w A [u1,u2,u3]) (hc:3≤c) (h1:BsAt w u1 l1) (h2:BsAt w u2 l2) (h3:BsAt w u3 l3):RowsAt w (.slice A 3 c) [l1,l2,l3]:=by
 refine ⟨A,c,[u1,u2,u3],rfl,hc,hA,rfl,?_⟩
 intro i u l hu hl
 match i,hu,hl with
 | 0,hu,hl=>simp at hu hl;subst hu;subst hl;exact h1
 | 1,hu,hl=>simp at hu hl;subst hu;subst hl;exact h2
 | 2,hu,hl=>simp at hu hl;subst hu;subst hl;exact h3
 | i+3,hu,_=>simp at hu
theorem join3_length (k b c:List UInt8) (hk:k.length=32):(joinB [k,b,c]).length=44+b.length+c.length:=by
 simp only [joinB,List.length_append,highB_length,hk,List.length_nil]
 omega
theorem mark5_calls (a g k b c j m:List UInt8) (hj:joinB [k,b,c]=j) (hm:macB g j=m) (la:a.length=32) (lg:g.length=32) (lk:k.length=32) (B C:Option Addr) (lb lc cb cc:Nat) (hlb:lb=b.length) (hlc:lc=c.length) (hb:b.length≤100000) (hc:c.length≤100000) (w:World) (hB:SlAt w B (bys b)) (hC:SlAt w C (bys c)) (hcb:lb≤cb) (hcc:lc≤cc) :
 Calls Tryz.prog 94 #[.agg (bys (a++g++k)).toArray,.slice B lb cb,.slice C lc cc] w fun e w'=>e=.returned (.agg (bys m).toArray)∧Kept [] w w':=by
 have l64:(a++g).length=64:=by rw [List.length_append];omega
 have l96:(a++g++k).length=96:=by rw [List.length_append];omega
 have lj:j.length=44+b.length+c.length:=by rw [← hj];exact join3_length k b c lk
 have lm:m.length=32:=by rw [← hm];exact macB_length ..
 have eg:((bys (a++g++k)).drop 32).take 32=bys g:=by rw [bys_drop,bys_take,List.append_assoc,List.drop_left' la,List.take_left' lg]
 have ek:((bys (a++g++k)).drop 64).take 32=bys k:=by rw [bys_drop,bys_take,List.drop_left' l64,List.take_of_length_le (by omega)]
 obtain ⟨x,hx⟩:∃ x,bys (a++g++k)=x:=⟨_,rfl⟩
 have lx:x.length=96:=by rw [← hx,bys_length,l96]
 have ox:∀ v∈x,v.oneCell'=true:=by rw [← hx];exact bys_one _
 rw [hx] at eg ek ⊢
 refine enter (n:=23) (R:=fun e L=>e=.returned (.agg (bys m).toArray)) [.agg x.toArray,.slice B lb cb,.slice C lc cc] F94 rfl rfl rfl (St.refl w) ?_ (fun e w' L' h H=>⟨h,H.kept⟩)
 refine VC_seq<|VC_region<|l_boxA rfl rfl<|fun b3=>l_allocA zr33 rfl<|fun b6=>vl_nil<|th_n<|VC_seq<|VC_drawQ 15 2 [[],[0],[1],[],[3],[],[],[4,5,6],[7],[2,8],[9],[10],[10],[],[13,11,9,0,1,2,3,4,5,6,7,8,10],[12,14,0,1,2,3,4,5,6,7,8,9,10,11,13]] [[],[0],[0,1],[],[3],[],[],[3,4,5,6],[3,4,5,6,7],[0,1,2,3,4,5,6,7,8],[0,1,2,3,4,5,6,7,8,9],[0,1,2,3,4,5,6,7,8,9,10],[0,1,2,3,4,5,6,7,8,9,10],[],[0,1,2,3,4,5,6,7,8,9,10,11,13],[0,1,2,3,4,5,6,7,8,9,10,11,12,13,14]] [([],[],[],[0,1],[]),([0],[],[],[0,1],[0]),([0,1],[],[],[0,1],[0,1]),([],[],[],[0,1],[]),([3],[],[],[0,1],[3]),([],[],[],[0,1],[]),([],[],[],[0,1],[]),([3,4,5,6],[],[],[0,1],[3,4,5,6]),([3,4,5,6,7],[],[],[0,1],[3,4,5,6,7]),([0,1,2,3,4,5,6,7,8],[],[],[0,1],[0,1,2,3,4,5,6,7,8]),([0,1,2,3,4,5,6,7,8,9],[],[],[0,1],[0,1,2,3,4,5,6,7,8,9]),([0,1,2,3,4,5,6,7,8,9,10],[],[],[0,1],[0,1,2,3,4,5,6,7,8,9,10]),([0,1,2,3,4,5,6,7,8,9,10],[],[],[0,1],[0,1,2,3,4,5,6,7,8,9,10]),([],[],[],[0,1],[]),([0,1,2,3,4,5,6,7,8,9,10,11,13],[],[13],[0,1],[0,1,2,3,4,5,6,7,8,9,10,11])] [0,1] [0,1,2,3,4,5,6,7,8,9,10,11,12,14] rfl rfl (by kernel_rfl)<|qp_v (fun xs gs hx=>q_fldA fo184_0 (by decide) rfl rfl)<|qp_v (fun xs gs hx=>q_fldA fo182_1 (by decide) rfl rfl) ?_
 refine qp_v (fun xs gs hx=>q_slcA U33 sz5 rfl rfl rfl rfl (.inl rfl) (by omega) (by omega) (by omega) (by omega) (by (try simp only [Nat.mul_one,Nat.zero_add,Nat.zero_mul,Nat.mul_zero,Nat.add_zero])<;>rfl)) ?_
 refine qp_v (fun xs gs hx=>q_fldA fo184_1 (by decide) rfl rfl) ?_
 refine qp_v (fun xs gs hx=>q_slcA U33 sz5 rfl rfl rfl rfl (.inl rfl) (by omega) (by omega) (by omega) (by omega) (by (try simp only [Nat.mul_one,Nat.zero_add,Nat.zero_mul,Nat.mul_zero,Nat.add_zero])<;>rfl)) ?_
 refine qp_v (fun xs gs hx=>q_move rfl)<|qp_v (fun xs gs hx=>q_move rfl)<|qp_a (fun xs gs hx=>q_litA (cs:=[.slice (some ⟨b3,64,none⟩) 32 32,.slice B lb cb,.slice C lc cc]) U23 in22 (by decide) rfl rfl rfl rfl (one_all rfl) rfl)<|qp_a (Fv:=fun _ _=>isSl j.length) (N:=fun _ _=>nRow 5 1 j.length (bys j)) (fun xs gs hx=>?_) ?_
 ·obtain ⟨b17,e17⟩:=hx.1 rfl
  simp only [e17]
  exact q_callR F47 rfl rfl rfl (fun w1 H1=>by rw [← hj];exact join_calls [k,b,c] _ w1 (rowsAt3 (Reads.rowV 2 e17 rfl w1 H1) (by omega) (bsAt_of lk.symm (by omega) (Reads.blkTake 1 64 32 rfl ek w1 H1)) (bsAt_of hlb hcb (Reads.old hB w1 H1)) (bsAt_of hlc hcc (Reads.old hC w1 H1))) (by rw [hj];omega) (by simp))
 refine qp_v (f:=fun _ _=>.tuple #[.agg (bys m).toArray,.int .i64 0]) (fun xs gs hx=>?_) ?_
 ·obtain ⟨A18,c18,e18,h18,h18'⟩:=hx.2.1 rfl
  simp only [e18]
  exact q_callV F67 rfl rfl rfl (fun w1 H1=>hm ▸ mac_calls g j _ _ 32 c18 32 lg.symm (by omega) (by omega) (by omega) w1 (Reads.blkTake 1 32 32 rfl eg w1 H1) (Reads.rowV 3 e18 rfl w1 H1) (by omega) (by omega))
 refine qp_v (fun xs gs hx=>q_move rfl)<|qp_v (fun xs gs hx=>q_ext rfl rfl)<|qp_v (fun xs gs hx=>q_ext rfl rfl)<|qp_a (fun xs gs hx=>q_alloc zr33 rfl) ?_
 refine qp_storeN (fun xs gs hx=>rfl) (fun xs gs hx=>hx.2.2.1 rfl) (fun xs gs hx=>rfl) (fun xs gs hx=>List.append_nil _) sz33 (fun xs gs hx=>by first | omega | with_reducible assumption | (simp only [zb,zu,zw,zi,za];omega) | (simp only [zs,zr,zm,za,zb,zu,zw,zi,zt,zd,zc,zn, *]<;>first | done | omega) | rfl) (fun xs gs hx=>by first | (with_reducible first | exact bys_one _ | exact u32s_one _ | exact u64s_one _ | exact i64s_one _ | exact n64s_one _ | assumption) | exact bys_one _ | exact u32s_one _ | exact u64s_one _ | exact i64s_one _ | exact one_all rfl | (refine app_one ?_ ?_<;>first | exact bys_one _ | exact one_all rfl | (simp;done))) (fun xs gs hx=>by first | omega | with_reducible assumption | (simp only [zb,zu,zw,zi,za];omega) | (simp only [zs,zr,zm,za,zb,zu,zw,zi,zt,zd,zc,zn, *]<;>first | done | omega) | rfl) ?_
 refine qp_end<|fun xs gs hx=>?_
 obtain ⟨⟨b17,e17⟩,⟨A18,c18,e18,hc18,hm18⟩,⟨b7,e7⟩,_,_⟩:=hx
 simp only [selI,ownsA,List.contains_cons,List.contains_nil,Nat.reduceBEq,Nat.reduceAdd,Bool.or_false,Bool.or_true,Bool.false_or,Bool.true_or,mask,nRow,nBlk,nRowT,tupAt_0,tupAt_1,List.append_assoc,List.nil_append,List.append_nil,List.cons_append,List.singleton_append,e17,e18,e7]
 refine VL.keep (kp [0,1,2,3,6,21,7] rfl)<|vl_v (q_assign rfl) rfl<|vl_nil<|qn_n<|th_n<|VC_seq<|VC_region<|vl_v (q_loads 4 U33 rfl rfl rfl sz33 (by simp only [zb,zu,zw,zi,za];omega)) rfl ?_
 refine l_storeA 0 rfl rfl rfl sz33 (by simp only [zb,zu,zw,zi,za];omega) (by with_reducible first | exact bys_one _ | exact u32s_one _ | exact u64s_one _ | exact i64s_one _ | exact n64s_one _ | assumption) (by simp only [zs,zr,zm,za,zb,zu,zw,zi,zt,zd,zc,zn, *]<;>first | done | omega) ?_
 simp only [List.set_cons_zero,List.set_cons_succ]
 refine vl_nil<|th_n<|VC_ret ?_
 refine ⟨_,resC1 0 rfl U33 rfl rfl rfl sz33 (by simp only [zb,zu,zw,zi,za];omega),?_⟩
 exact rfl
def turnW (k b:List UInt8):List UInt8:=turnB (keyP k tTurn) n12 0 b
def markW (k b c:List UInt8):List UInt8:=macB (keyP k tTag) (joinB [k,b,c])
def closeW (k b t:List UInt8):List UInt8:=turnW k t++markW k b (turnW k t)
theorem turnW_length (k b:List UInt8):(turnW k b).length=b.length:=turnB_length ..
theorem markW_length (k b c:List UInt8):(markW k b c).length=32:=macB_length ..
theorem closeW_length (k b t:List UInt8):(closeW k b t).length=t.length+32:=by rw [closeW,List.length_append,turnW_length,markW_length]
theorem close5_walk (k b t a g u m:List UInt8) (ha:keyP k tTurn=a) (hg:keyP k tTag=g) (hu:turnB a n12 0 t=u) (hm:macB g (joinB [k,b,u])=m) (hk:k.length=32) (B C:Option Addr) (lb lc cb cc:Nat) (hlb:lb=b.length) (hlc:lc=t.length) (hb:b.length≤10000) (hc:t.length≤10000) (w:World) (hB:SlAt w B (bys b)) (hC:SlAt w C (bys t)) (hcb:lb≤cb) (hcc:lc≤cc) :
 Calls Tryz.prog 71 #[.agg (bys k).toArray,.slice B lb cb,.slice C lc cc] w fun e w'=>∃ v,e=.returned v∧St [] w [.row 5 1 v (t.length+32) (bys (u++m))] w':=by
 have la:a.length=32:=by rw [← ha];exact keyP_length ..
 have lg:g.length=32:=by rw [← hg];exact keyP_length ..
 have lu:u.length=t.length:=by rw [← hu];exact turnB_length ..
 have lm:m.length=32:=by rw [← hm];exact macB_length ..
 obtain ⟨x,hx⟩:∃ x,bys (a++g++k)=x:=⟨_,rfl⟩
 have lx:x.length=96:=by rw [← hx,bys_length,List.length_append,List.length_append];omega
 have ox:∀ v∈x,v.oneCell'=true:=by rw [← hx];exact bys_one _
 refine enter (n:=22) (R:=fun e L=>∃ v,e=.returned v∧∀ w',St [] w L w'→St [] w [.row 5 1 v (t.length+32) (bys (u++m))] w') [.agg (bys k).toArray,.slice B lb cb,.slice C lc cc] F71 rfl rfl rfl (St.refl w) ?_ (fun e w' L' h H=>by obtain ⟨v,h1,h2⟩:=h;exact ⟨v,h1,h2 w' H⟩)
 refine VC_seq<|VC_region<|l_boxA rfl rfl<|fun b3=>vl_v (q_assign rfl) rfl<|vl_nil<|th_n<|VC_seq<|VC_region<|vl_v (q_loads 0 U33 rfl rfl rfl sz33 (by simp only [zb,zu,zw,zi,za];omega)) rfl<|vl_v (q_callV F92 rfl rfl rfl (fun w1 H1=>hx ▸ of5_calls k a g ha hg hk w1)) rfl<|l_allocA zr184 rfl<|fun b7=>?_
 refine l_storeA 0 rfl rfl rfl sz184 (by omega) (by with_reducible first | exact bys_one _ | exact u32s_one _ | exact u64s_one _ | exact i64s_one _ | exact n64s_one _ | assumption) (by simp only [zs,zr,zm,za,zb,zu,zw,zi,zt,zd,zc,zn, *]<;>first | done | omega) ?_
 simp only [List.set_cons_zero,List.set_cons_succ]
 refine vl_nil<|th_n<|VC_seq<|VC_region<|vl_v (q_loads 0 U184 rfl rfl rfl sz184 (by omega)) rfl<|vl_v (q_move rfl) rfl<|l_callR F93 rfl rfl rfl (fun w1 H1=>by have h:=turned5_calls a g k t la lg hk C lc cc hlc (by omega) w1 (Reads.old hC w1 H1) (by omega);rw [hu,hx] at h;exact h) rfl<|fun A14 c14 hc14 hm14=>vl_v (q_assign rfl) rfl<|vl_nil<|th_n<|VC_seq<|VC_region ?_
 refine vl_v (q_loads 1 U184 rfl rfl rfl sz184 (by omega)) rfl<|vl_v (q_move rfl) rfl<|vl_v (q_move rfl) rfl<|vl_v (q_callV F94 rfl rfl rfl (fun w1 H1=>by have h:=mark5_calls a g k b u _ m rfl hm la lg hk B A14 lb t.length cb c14 hlb lu.symm (by omega) (by omega) w1 (Reads.old hB w1 H1) (Reads.row 0 rfl w1 H1) hcb (by omega);rw [hx] at h;exact h)) rfl<|l_allocA zr33 rfl<|fun b9=>?_
 refine l_storeA 0 rfl rfl rfl sz33 (by simp only [zb,zu,zw,zi,za];omega) (by with_reducible first | exact bys_one _ | exact u32s_one _ | exact u64s_one _ | exact i64s_one _ | exact n64s_one _ | assumption) (by simp only [zs,zr,zm,za,zb,zu,zw,zi,zt,zd,zc,zn, *]<;>first | done | omega) ?_
 simp only [List.set_cons_zero,List.set_cons_succ]
 refine vl_nil<|th_n<|VC_seq<|VC_region<|vl_v (q_move rfl) rfl ?_
 refine vl_v (q_slcA U33 sz5 rfl rfl rfl rfl (.inl rfl) (by omega) (by omega) (by omega) (by omega) (by (try simp only [Nat.mul_one,Nat.zero_add,Nat.zero_mul,Nat.mul_zero,Nat.add_zero])<;>rfl)) rfl ?_
 refine l_append 1 rfl rfl rfl U22 U22 in5 rfl (by decide) (Reads.blk 0 rfl) (by simp only [zb,zu,zw,zi,za];omega) (by with_reducible first | exact bys_one _ | exact u32s_one _ | exact u64s_one _ | exact i64s_one _ | exact n64s_one _ | assumption) (by omega) (by omega) rfl<|fun A21 c21 hc21=>?_
 simp only [List.set_cons_zero,List.set_cons_succ,← bys_append,← u32s_append,← u64s_append,← i64s_append,List.nil_append,Nat.zero_add]
 refine vl_v (q_assign rfl) rfl<|vl_nil<|th_n<|VC_ret<|⟨_,res1 rfl rfl,?_⟩
 exact ⟨_,rfl,fun w' H'=>St.pick H' (ks:=[1]) (by decide) rfl⟩
theorem close5_calls (k b t:List UInt8) (hk:k.length=32) (B C:Option Addr) (lb lc cb cc:Nat) (hlb:lb=b.length) (hlc:lc=t.length) (hb:b.length≤10000) (hc:t.length≤10000) (w:World) (hB:SlAt w B (bys b)) (hC:SlAt w C (bys t)) (hcb:lb≤cb) (hcc:lc≤cc) :
 Calls Tryz.prog 71 #[.agg (bys k).toArray,.slice B lb cb,.slice C lc cc] w fun e w'=>∃ v,e=.returned v∧St [] w [.row 5 1 v (t.length+32) (bys (closeW k b t))] w' :=
 close5_walk k b t _ _ _ _ rfl rfl rfl rfl hk B C lb lc cb cc hlb hlc hb hc w hB hC hcb hcc
def rowV (bf:Nat→Nat) (r:Nat):Value:=.slice (some ⟨bf r,0,none⟩) 16 16
theorem slRest {w:World} {A:Option Addr} {l:List UInt8} (hA:SlAt w A (bys l)) (o m:Nat) (hm:l.length≤m):SlAt w (PBYtfpdnpppcoomnaaGreat.adv A o m 1) (bys (l.drop o)):=by
 have:=hA.adv (l:=o) (m:=m) (sz:=1) (by rw [bys_length,Nat.mul_one];exact hm)
 rwa [Nat.mul_one,bys_drop] at this
end Go.Proofs.YtfpdnpppcoomnaaGreat
namespace Go.PBYtfpdnpppcoomnaaGreat
open Go Go.RowKit
theorem ww {x:Nat} (h:x<18446744073709551616):IntKind.u64.wrap (x:Int)=(x:Int):=by
 simp only [IntKind.wrap,IntKind.bits,IntKind.signed]
 simp only [Bool.false_and,Bool.false_eq_true,if_false]
 omega
section
variable {P : Program} {n : Nat} {S : List Nat} {w0 : World} {ops : Array Oper} {Q : QE} {rest : List Oper} {d : Tmp} {ty : TypeId} {pos : String} {af : Array Edge} {g : Option (Nat × Bool)} {env : Env} {L : List Res} {T T' : TypeId} {x y : Operand}
theorem q_shr_i {k':IntKind} {p:Int} {m:Nat} (hx:evalE env x=some (.int .i64 p)) (hy:evalE env y=some (.int k' (m:Int))) (hm:m≤63) :
 QT P n S w0 { dst:=some d,op:=.binOp .shr T x y T',type:=ty,pos,after:=af,guard:=g } env L (.val (.int .i64 (p / 2^m))) :=
 q_shr_k hx hy (by
  rw [show min m IntKind.i64.bits=m from by show min m 64=m;omega,Int.fdiv_eq_ediv_of_nonneg _ (Int.le_of_lt (Int.pow_pos (by omega)))])
theorem q_shl_i {k':IntKind} {p:Int} {m:Nat} (hx:evalE env x=some (.int .i64 p)) (hy:evalE env y=some (.int k' (m:Int))) (hm:m≤63) (h1 : -9223372036854775808≤p*2^m) (h2:p*2^m≤9223372036854775807) :
 QT P n S w0 { dst:=some d,op:=.binOp .shl T x y T',type:=ty,pos,after:=af,guard:=g } env L (.val (.int .i64 (p*2^m))) :=
 q_shl_k hx hy (by
  rw [show min m IntKind.i64.bits=m from by show min m 64=m;omega,wi h1 h2])
theorem and_mask (p:Int) (k:Nat) (hk:k≤62):IntKind.i64.wrap ((BitVec.ofInt IntKind.i64.bits p &&& BitVec.ofInt IntKind.i64.bits (2^k-1)).toNat:Int)=p % 2^k:=by
 show IntKind.i64.wrap ((BitVec.ofInt 64 p &&& BitVec.ofInt 64 (2^k-1)).toNat:Int)=p % 2^k
 have hk2:(2:Nat)^k≤2^62:=Nat.pow_le_pow_right (by omega) hk
 have hk0:0<(2:Nat)^k:=Nat.pow_pos (by omega)
 have e1:(BitVec.ofInt 64 (2^k-1)).toNat=2^k-1:=by
  rw [BitVec.toNat_ofInt]
  have:((2:Int)^k-1)=((2^k-1:Nat):Int):=by
   rw [Int.ofNat_sub (by omega)];norm_cast
  rw [this]
  rw [Int.emod_eq_of_lt (by omega) (by omega)]
  rfl
 have e2:((BitVec.ofInt 64 p).toNat:Int)=p % 2^64:=by
  rw [BitVec.toNat_ofInt]
  rw [Int.toNat_of_nonneg (Int.emod_nonneg _ (by decide))]
  rfl
 rw [BitVec.toNat_and,e1,Nat.and_two_pow_sub_one_eq_mod]
 have e3:(((BitVec.ofInt 64 p).toNat % 2^k:Nat):Int)=p % 2^k:=by
  rw [Int.natCast_emod,e2]
  have:((2^k:Nat):Int) ∣ 2^64:=by
   refine ⟨((2^(64-k):Nat):Int),?_⟩
   rw [← Int.natCast_mul,← Nat.pow_add,show k+(64-k)=64 by omega]
   rfl
  rw [Int.emod_emod_of_dvd _ this]
  norm_cast
 rw [e3]
 have h3:0≤p % 2^k:=Int.emod_nonneg _ (by have:(0:Int)<2^k:=Int.pow_pos (by omega);omega)
 have h4:p % 2^k<2^k:=Int.emod_lt_of_pos _ (Int.pow_pos (by omega))
 have h5:(2:Int)^k≤2^62:=by
  have:((2^k:Nat):Int)≤((2^62:Nat):Int):=Int.ofNat_le.2 hk2
  simpa using this
 exact wi (by omega) (by omega)
theorem q_and_i {p q:Int} (k:Nat) (hk:k≤62) (hq:q=2^k-1) (hx:evalE env x=some (.int .i64 p)) (hy:evalE env y=some (.int .i64 q)) :
 QT P n S w0 { dst:=some d,op:=.binOp .and T x y T',type:=ty,pos,after:=af,guard:=g } env L (.val (.int .i64 (p % 2^k))) :=
 q_and_k hx hy (by rw [hq];exact and_mask p k hk)
theorem q_or_b {p q:Nat} (hp:p<256) (hq:q<256) (hx:evalE env x=some (.int .i64 (p:Int))) (hy:evalE env y=some (.int .i64 ((q:Int)*256))) :
 QT P n S w0 { dst:=some d,op:=.binOp .or T x y T',type:=ty,pos,after:=af,guard:=g } env L (.val (.int .i64 ((p+256*q:Nat):Int))) :=
 q_or_k hx hy (by
  show IntKind.i64.wrap ((BitVec.ofInt 64 (p:Int) ||| BitVec.ofInt 64 ((q:Int)*256)).toNat:Int)=_
  have e1:(BitVec.ofInt 64 (p:Int)).toNat=p:=by rw [BitVec.toNat_ofInt];omega
  have e2:(BitVec.ofInt 64 ((q:Int)*256)).toNat=2^8*q:=by rw [BitVec.toNat_ofInt];omega
  rw [BitVec.toNat_or,e1,e2,Nat.or_comm,← Nat.two_pow_add_eq_or_of_lt (by omega),wi (by omega) (by omega)]
  congr 1
  omega)
theorem q_conv_ib {src dst:TypeId} {ds:TypeDesc} {k':IntKind} {p:Int} (hs:P.underlying src=some ds) (hd:P.underlying dst=some (.int .u8)) (hx:evalE env x=some (.int k' p)) :
 QT P n S w0 { dst:=some d,op:=.convert src dst x,type:=ty,pos,after:=af,guard:=g } env L (.val (vU8 (UInt8.ofNat (p % 256).toNat))) :=
 q_conv_k hs hd hx (by
  simp only [IntKind.wrap,IntKind.bits,IntKind.signed,Bool.false_and,Bool.false_eq_true,if_false,UInt8.toNat_ofNat']
  omega)
theorem q_conv_nw {src dst:TypeId} {ds:TypeDesc} {k':IntKind} {p:Nat} (hs:P.underlying src=some ds) (hd:P.underlying dst=some (.int .u64)) (hx:evalE env x=some (.int k' (p:Int))) (h:p<18446744073709551616) :
 QT P n S w0 { dst:=some d,op:=.convert src dst x,type:=ty,pos,after:=af,guard:=g } env L (.val (vW p)) :=
 q_conv_k hs hd hx (ww h)
end
end Go.PBYtfpdnpppcoomnaaGreat
namespace Go.Proofs.YtfpdnpppcoomnaaGreat
open Go.RowKit Go.PBYtfpdnpppcoomnaaGreat
def partC (t:List UInt8) (n:Nat):List Value:=bys t++[vN n]
theorem partC_length {t:List UInt8} {n:Nat} (h:t.length=32):(partC t n).length=33:=by rw [partC,List.length_append,bys_length,h];rfl
theorem partC_one (t:List UInt8) (n:Nat):∀ v∈partC t n,v.oneCell'=true:=by
 intro v hv
 rcases List.mem_append.1 hv with h | h
 ·exact bys_one _ v h
 ·rw [List.mem_singleton.1 h];rfl
theorem partC_at {t:List UInt8} {n:Nat} (h:t.length=32):(partC t n)[32]?=some (vN n):=by
 rw [partC,List.getElem?_append_right (by rw [bys_length,h];exact Nat.le_refl _),bys_length,h];rfl
theorem partC_tag {t:List UInt8} {n:Nat} (h:t.length=32):((partC t n).drop 0).take 32=bys t:=by
 rw [List.drop_zero,partC,List.take_left' (by rw [bys_length,h])]
theorem partC_splice {t u:List UInt8} {n:Nat} (ht:t.length=32) (hu:u.length=32):splice (partC t n) 0 ((bys u).take (min 32 32))=partC u n:=by
 rw [List.take_of_length_le (by rw [bys_length,hu];exact Nat.le_refl _),splice,List.take_zero,List.nil_append,bys_length,hu,Nat.zero_add,partC,List.drop_left' (by rw [bys_length,ht])]
 rfl
theorem part_good (c t:List UInt8) (n lc cc:Nat) (C:Option Addr) (hn:c.length=n+32) (ht:c.drop n=t) (hlc:lc=c.length) (hcc:lc≤cc) (hl:c.length≤100000) (w:World) (hC:SlAt w C (bys c)) :
 Calls Tryz.prog 100 #[.slice C lc cc] w fun e w'=>e=.returned (.tuple #[.agg (partC t n).toArray,.bool true])∧Kept [] w w':=by
 subst hlc
 have lt:t.length=32:=by rw [← ht,List.length_drop];omega
 have l33:=partC_length (n:=n) lt
 have o33:=partC_one t n
 have l0:=partC_length (t:=List.replicate 32 0) (n:=n) (by simp)
 refine enter (n:=21) (R:=fun e L=>e=.returned (.tuple #[.agg (partC t n).toArray,.bool true])) [.slice C c.length cc] F100 rfl rfl rfl (St.refl w) ?_ (fun e w' L' h H=>⟨h,H.kept⟩)
 refine VC_seq<|VC_region<|l_allocA zr196 rfl<|fun b2=>vl_v (q_assign rfl) rfl<|vl_nil<|th_n<|VC_seq<|VC_region<|l_allocA zr196 rfl<|fun b4=>vl_nil<|th_n<|VC_seq ?_
 refine VC_region<|vl_v (q_move rfl) rfl<|vl_v (q_lenS U22 rfl) rfl<|vl_v (q_as (v:=vN n) (q_sub_n (q:=32) (p:=c.length) rfl rfl (by omega) (by omega)) (by rw [hn];rfl)) rfl<|vl_v (q_fldA fo196_1 (by decide) rfl rfl) rfl<|l_store1 0 rfl rfl rfl sz3 rfl (by decide) ?_
 simp only [List.set_cons_zero,List.set_cons_succ]
 refine vl_nil<|th_n<|VC_seq<|VC_seq ?_
 rw [show (bys (List.replicate 32 0)++[Value.int .i64 0]).set 32 (vN n)=partC (List.replicate 32 0) n from rfl]
 refine VC_region<|vl_v (q_fldA fo196_1 (by decide) rfl rfl) rfl<|vl_v (q_load 0 U3 rfl rfl rfl (partC_at (by simp))) rfl<|vl_v (q_false (q_lss_n (q:=0) U3 rfl rfl) (by simp)) rfl<|vl_nil<|th_n<|VC_no (rfl)<|VC_skip<|th_n<|VC_seq<|VC_drawV 6 [[],[0],[],[],[3],[2,4],[1,5]] [[],[0],[],[],[3],[2,3,4],[0,1,2,3,4,5]] rfl (by kernel_rfl)<|qv_v (q_fldA fo196_0 (by decide) rfl rfl) ?_
 refine qv_v (q_slcA U33 sz5 rfl rfl rfl rfl (.inl rfl) (by omega) (by omega) (by omega) (by omega) (by (try simp only [Nat.mul_one,Nat.zero_add,Nat.zero_mul,Nat.mul_zero,Nat.add_zero])<;>rfl)) ?_
 refine qv_v (q_move rfl)<|qv_v (q_fldA fo196_1 (by decide) rfl rfl)<|qv_v (q_load 0 U3 rfl rfl rfl (partC_at (by simp)))<|qv_v (q_as (v:=.slice (PBYtfpdnpppcoomnaaGreat.adv C n cc 1) 32 (cc-n)) (q_slcS (l:=n) (h:=c.length) (m:=cc) U22 sz5 rfl ⟨_,rfl⟩ rfl rfl (.inl rfl) (by omega) (by omega) (by omega)) (by rw [show c.length-n=32 by omega]))<|qv_end<|VL.keep (kp [0,2,3,4,11,14,18] rfl)<|l_copy 0 rfl rfl rfl U22 U22 sz5 (fun w1 H1=>by have h:=slRest (hC.keep H1.kept) n cc (by omega);rw [ht] at h;exact h) (by simp only [zb,zu,zw,zi,za];omega) (by with_reducible first | exact bys_one _ | exact u32s_one _ | exact u64s_one _ | exact i64s_one _ | exact n64s_one _ | assumption) (by omega) rfl ?_
 simp only [List.set_cons_zero,List.set_cons_succ]
 rw [partC_splice (by simp) lt]
 refine vl_nil<|qn_n<|th_n<|VC_seq<|VC_region<|vl_v (q_loads 0 U196 rfl rfl rfl sz196 (by omega)) rfl ?_
 refine l_storeA 1 rfl rfl rfl sz196 (by omega) (by with_reducible first | exact bys_one _ | exact u32s_one _ | exact u64s_one _ | exact i64s_one _ | exact n64s_one _ | assumption) (by simp only [zs,zr,zm,za,zb,zu,zw,zi,zt,zd,zc,zn, *]<;>first | done | omega) ?_
 simp only [List.set_cons_zero,List.set_cons_succ]
 refine vl_v (q_assign rfl) rfl<|vl_nil<|th_n<|VC_ret<|⟨_,resC2 1 rfl U196 rfl rfl rfl sz196 (by omega) rfl,?_⟩
 exact rfl
theorem laidK:laidOutB Tryz.prog=true:=by kernel_rfl
theorem flat33:Flat Tryz.prog 196 (List.replicate 32 .u8++[.i64]) :=
 flat_of (m:=3) laidK (by omega) (of_decide_eq_true (by kernel_rfl)) (by kernel_rfl) (by kernel_rfl) (by kernel_rfl) (by kernel_rfl) (by kernel_rfl) (by kernel_rfl)
theorem fits_part {t:List UInt8} {n:Nat} (h:t.length=32) (hn:n≤1000000):Fits (partC t n) (List.replicate 32 .u8++[.i64]):=by
 refine (fits_bys' h).append (fits_int ?_)
 simp only [Lit.wf,Bool.and_eq_true,decide_eq_true_eq]
 have h1:IntKind.i64.min = -9223372036854775808:=rfl
 have h2:IntKind.i64.max=9223372036854775807:=rfl
 rw [h1,h2]
 omega
theorem partC_inj {t u:List UInt8} {n:Nat} (h:partC t n=partC u n):t=u:=bys_inj' (List.append_cancel_right h)
theorem same5_calls (l m:List UInt8) (A B:Option Addr) (a c b d:Nat) (hl:a=l.length) (hm:b=m.length) (w:World) (hA:SlAt w A (bys l)) (hB:SlAt w B (bys m)) (hc:a≤c) (hd:b≤d) (h1:l.length≤140737488355328:=by omega) (h2:m.length≤140737488355328:=by omega) :
 Calls Tryz.prog 83 #[.slice A a c,.slice B b d] w fun e w'=>e=.returned (.bool (decide (l=m)))∧Kept [] w w':=by
 subst hl
 subst hm
 exact same_calls l m A B c d w hA hB hc hd h1 h2
theorem open5_good (k b c t a g u m:List UInt8) (n:Nat) (ha:keyP k tTurn=a) (hg:keyP k tTag=g) (hu:turnB a n12 0 (c.take n)=u) (hm:macB g (joinB [k,b,c.take n])=m) (hk:k.length=32) (B C:Option Addr) (lb lc cb cc:Nat) (hn:c.length=n+32) (ht:c.drop n=t) (hlb:lb=b.length) (hlc:lc=c.length) (hb:b.length≤10000) (hc:c.length≤10000) (hmt:m=t) (w:World) (hB:SlAt w B (bys b)) (hC:SlAt w C (bys c)) (hcb:lb≤cb) (hcc:lc≤cc) :
 Calls Tryz.prog 78 #[.agg (bys k).toArray,.slice B lb cb,.slice C lc cc] w fun e w'=>∃ v,e=.returned (.tuple #[v,.int .i64 0])∧St [] w [.row 5 1 v n (bys u)] w':=by
 have la:a.length=32:=by rw [← ha];exact keyP_length ..
 have lg:g.length=32:=by rw [← hg];exact keyP_length ..
 have lt:t.length=32:=by rw [← ht,List.length_drop];omega
 have lm:m.length=32:=by rw [← hm];exact macB_length ..
 have lcn:(c.take n).length=n:=by rw [List.length_take];omega
 have l33:=partC_length (n:=n) lt
 have o33:=partC_one t n
 have l34:=partC_length (n:=n) lm
 have o34:=partC_one m n
 obtain ⟨x,ebx⟩:∃ x,bys (a++g++k)=x:=⟨_,rfl⟩
 have lx:x.length=96:=by rw [← ebx,bys_length,List.length_append,List.length_append];omega
 have ox:∀ v∈x,v.oneCell'=true:=by rw [← ebx];exact bys_one _
 refine enter (n:=48) (R:=fun e L=>∃ v,e=.returned (.tuple #[v,.int .i64 0])∧∀ w',St [] w L w'→St [] w [.row 5 1 v n (bys u)] w') [.agg (bys k).toArray,.slice B lb cb,.slice C lc cc] F78 rfl rfl rfl (St.refl w) ?_ (fun e w' L' h H=>by obtain ⟨v,h1,h2⟩:=h;exact ⟨v,h1,h2 w' H⟩)
 refine VC_seq<|VC_region<|l_boxA rfl rfl<|fun b3=>vl_v (q_assign rfl) rfl<|vl_v (q_assign rfl) rfl<|vl_nil<|th_n<|VC_seq<|VC_region<|vl_v (q_move rfl) rfl<|vl_v (q_callV F100 rfl rfl rfl (fun w1 H1=>part_good c t n lc cc C hn ht hlc hcc (by omega) w1 (hC.keep H1.kept))) rfl<|vl_v (q_move rfl) rfl ?_
 refine vl_v (q_ext rfl rfl) rfl<|vl_v (q_ext rfl rfl) rfl<|l_allocA zr196 rfl<|fun b8=>?_
 refine l_storeA 0 rfl rfl rfl sz196 (by omega) (by with_reducible first | exact bys_one _ | exact u32s_one _ | exact u64s_one _ | exact i64s_one _ | exact n64s_one _ | assumption) (by simp only [zs,zr,zm,za,zb,zu,zw,zi,zt,zd,zc,zn, *]<;>first | done | omega) ?_
 simp only [List.set_cons_zero,List.set_cons_succ]
 refine vl_v (q_assign rfl) rfl<|vl_nil<|th_n<|VC_seq<|VC_seq<|VC_region<|vl_v (q_move rfl) rfl<|vl_v (q_not rfl) rfl<|vl_nil<|th_n<|VC_no (rfl)<|VC_skip ?_
 refine th_n<|VC_seq<|VC_region<|vl_v (q_loads 1 U33 rfl rfl rfl sz33 (by simp only [zb,zu,zw,zi,za];omega)) rfl<|vl_v (q_callV F92 rfl rfl rfl (fun w1 H1=>ebx ▸ of5_calls k a g ha hg hk w1)) rfl<|l_allocA zr184 rfl<|fun b10=>?_
 refine l_storeA 0 rfl rfl rfl sz184 (by omega) (by with_reducible first | exact bys_one _ | exact u32s_one _ | exact u64s_one _ | exact i64s_one _ | exact n64s_one _ | assumption) (by simp only [zs,zr,zm,za,zb,zu,zw,zi,zt,zd,zc,zn, *]<;>first | done | omega) ?_
 simp only [List.set_cons_zero,List.set_cons_succ]
 refine vl_nil<|th_n<|VC_seq<|VC_drawM 11 [[],[],[],[],[3],[2,4],[0,1,5],[],[7],[6,8],[],[10,9,6,0,1,2,3,4,5,7,8]] [[],[],[],[],[3],[2,3,4],[0,1,2,3,4,5],[],[7],[0,1,2,3,4,5,6,7,8],[],[0,1,2,3,4,5,6,7,8,9,10]] rfl (by kernel_rfl)<|qm_v (fun xs hx=>q_loads 0 U184 rfl rfl rfl sz184 (by omega))<|qm_v (fun xs hx=>q_move rfl)<|qm_v (fun xs hx=>q_move rfl)<|qm_v (fun xs hx=>q_fldA fo196_1 (by decide) rfl rfl)<|qm_v (fun xs hx=>q_load 1 U3 rfl rfl rfl (partC_at lt))<|qm_v (fun xs hx=>q_slcS0 (h:=n) (m:=cc) U22 sz5 rfl ⟨_,rfl⟩ rfl (.inl rfl) (by omega) (by omega))<|qm_v (fun xs hx=>q_callV F94 rfl rfl rfl (fun w1 H1=>by have h:=mark5_calls a g k b (c.take n) _ m rfl hm la lg hk B C lb n cb cc hlb lcn.symm (by omega) (by omega) w1 (Reads.old hB w1 H1) ((Reads.old hC).take n (bys_take _ _) w1 H1) hcb (by omega);rw [ebx] at h;exact h))<|qm_v (fun xs hx=>q_fldA fo196_1 (by decide) rfl rfl) ?_
 refine qm_v (fun xs hx=>q_load 1 U3 rfl rfl rfl (partC_at lt))<|qm_v (fun xs hx=>q_buildS (tot:=33) (sizes:=[32,1]) (c':=partC m n) (by kernel_rfl) rfl rfl rfl rfl (by simp only [List.map_cons,List.map_nil,cellsL,Value.cells,bys_length,lm];rfl) (by simp only [flatV,cellsL,Value.cells,List.map_cons,List.map_nil,List.flatten_cons,List.flatten_nil,List.append_nil,partC]))<|qm_a (fun xs hx=>q_alloc zr196 rfl)<|qm_end<|fun xs hx=>?_
 obtain ⟨⟨b11,e11⟩,_⟩:=hx
 simp only [e11]
 simp only [resT,nRow,nBlk,nRowT,tupAt_0,List.append_assoc,List.nil_append,List.append_nil,List.cons_append,List.singleton_append,e11]
 refine VL.keep (kp [0,1,2,3,6,7,8,9,18,10,30,11] rfl)<|l_storeA 0 rfl rfl rfl sz196 (by omega) (by with_reducible first | exact bys_one _ | exact u32s_one _ | exact u64s_one _ | exact i64s_one _ | exact n64s_one _ | assumption) (by rfl) ?_
 simp only [List.set_cons_zero,List.set_cons_succ]
 refine vl_nil<|qn_n<|th_n<|VC_seq<|VC_seq<|VC_drawV 8 [[],[],[0,1],[2],[3],[4,3],[3],[6,3],[5,7,3],[8,3],[3,9]] [[],[],[0,1],[0,1,2],[0,1,2,3],[0,1,2,3,4],[0,1,2,3],[0,1,2,3,6],[0,1,2,3,4,5,6,7],[0,1,2,3,4,5,6,7,8],[0,1,2,3,4,5,6,7,8,9]] rfl (by kernel_rfl)<|qv_v (q_loads 0 U196 rfl rfl rfl sz196 (by omega))<|qv_v (q_loads 2 U196 rfl rfl rfl sz196 (by omega))<|qv_v (q_as (v:=.bool false) (q_neR flat33 rfl rfl (fits_part lm (by omega)) (fits_part lt (by omega)) (r:=decide (m=t)) (by rw [decide_eq_true_iff];exact ⟨fun h=>by rw [h],partC_inj⟩)) (by rw [decide_eq_true hmt];rfl))<|qv_v (q_move rfl)<|qv_vg (rfl) (q_fldA fo196_0 (by decide) rfl rfl) ?_
 refine qv_vg (rfl) (q_slcA U33 sz5 rfl rfl rfl rfl (.inl rfl) (by omega) (by omega) (by omega) (by omega) (by (try simp only [Nat.mul_one,Nat.zero_add,Nat.zero_mul,Nat.mul_zero,Nat.add_zero])<;>rfl)) ?_
 refine qv_vg (rfl) (q_fldA fo196_0 (by decide) rfl rfl) ?_
 refine qv_vg (rfl) (q_slcA U33 sz5 rfl rfl rfl rfl (.inl rfl) (by omega) (by omega) (by omega) (by omega) (by (try simp only [Nat.mul_one,Nat.zero_add,Nat.zero_mul,Nat.mul_zero,Nat.add_zero])<;>rfl)) ?_
 refine qv_end<|VL.keep (kp [0,1,2,3,6,7,8,9,18,10,11,34,36,38] rfl)<|vl_vg rfl (q_as (v:=.bool true) (q_callV F83 rfl rfl rfl (fun w1 H1=>same5_calls m t _ _ 32 32 32 32 lm.symm lt.symm w1 (Reads.blkTake 0 0 32 rfl (partC_tag lm) w1 H1) (Reads.blkTake 2 0 32 rfl (partC_tag lt) w1 H1) (by omega) (by omega))) (by rw [decide_eq_true hmt])) rfl<|vl_vg rfl (q_not rfl) rfl<|vl_v (q_pickF rfl rfl) rfl<|vl_nil<|qn_n<|th_n<|VC_no (rfl)<|VC_skip<|th_n<|VC_seq<|VC_drawV 5 [[],[],[],[2],[1,3],[0,4],[5,0,1,2,3,4],[6,0,1,2,3,4,5]] [[],[],[],[2],[1,2,3],[0,1,2,3,4],[0,1,2,3,4,5],[0,1,2,3,4,5,6]] rfl (by kernel_rfl) ?_
 refine qv_v (q_loads 1 U184 rfl rfl rfl sz184 (by omega))<|qv_v (q_move rfl)<|qv_v (q_fldA fo196_1 (by decide) rfl rfl)<|qv_v (q_load 2 U3 rfl rfl rfl (partC_at lt))<|qv_v (q_slcS0 (h:=n) (m:=cc) U22 sz5 rfl ⟨_,rfl⟩ rfl (.inl rfl) (by omega) (by omega))<|qv_end<|VL.keep (kp [0,1,2,3,6,7,8,9,18,10,11,41,42,46] rfl)<|l_callR F93 rfl rfl rfl (fun w1 H1=>by have h:=turned5_calls a g k (c.take n) la lg hk C n cc lcn.symm (by omega) w1 ((Reads.old hC).take n (bys_take _ _) w1 H1) (by omega);rw [hu,ebx,lcn] at h;exact h) rfl<|fun A47 c47 hc47 hm47=>vl_v (q_assign rfl) rfl<|vl_v (q_assign rfl) rfl<|vl_nil<|qn_n<|th_n ?_
 refine VC_ret<|⟨_,res2 rfl rfl rfl,?_⟩
 exact ⟨_,rfl,fun w' H'=>St.pick H' (ks:=[0]) (by decide) rfl⟩
theorem laidP:laidOutB Tryz.prog=true:=by kernel_rfl
theorem flat32:Flat Tryz.prog 33 (List.replicate 32 .u8) :=
 flat_of (m:=3) laidP (by omega) (of_decide_eq_true (by kernel_rfl)) (by kernel_rfl) (by kernel_rfl) (by kernel_rfl) (by kernel_rfl) (by kernel_rfl) (by kernel_rfl)
end Go.Proofs.YtfpdnpppcoomnaaGreat

