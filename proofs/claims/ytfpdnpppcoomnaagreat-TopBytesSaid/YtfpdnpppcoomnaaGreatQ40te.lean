/- Words and laws that the proofs of this seat share, part 5 of 10. No condition. -/
import Derived.Test.YtfpdnpppcoomnaaGreatQ40td
set_option linter.unusedVariables false
set_option linter.unusedSimpArgs false
set_option linter.defProp false
set_option maxRecDepth 100000
set_option maxHeartbeats 16000000
namespace Go.Proofs.YtfpdnpppcoomnaaGreat
open Go.RowKit Go.PBYtfpdnpppcoomnaaGreat
theorem flatMade:Flat Tryz.prog 114 (List.replicate 64 .u8) :=
 flat_of (m:=6) laidP (by omega) (of_decide_eq_true (by kernel_rfl)) (by kernel_rfl) (by kernel_rfl) (by kernel_rfl) (by kernel_rfl) (by kernel_rfl) (by kernel_rfl)
def comitB (k:List UInt8) (ls:List (List UInt8)):List UInt8:=macB k (joinB ls)
theorem comitB_length (k:List UInt8) (ls:List (List UInt8)):(comitB k ls).length=32:=macB_length ..
section
variable (k : List UInt8) (ls : List (List UInt8)) (v0 : Value) (hk : k.length = 32) (hn : ls.length ≤ 1000) (hb : (joinB ls).length ≤ 100000) (w : World) (hv : RowsAt w v0 ls)
include hk hn hb hv
theorem cof_calls:Calls Tryz.prog 52 #[.agg (bys k).toArray,v0] w fun e w'=>e=.returned (.agg (bys (k++comitB k ls)).toArray)∧Kept [] w w':=by
 obtain ⟨j,hj⟩:∃ j,joinB ls=j:=⟨_,rfl⟩
 obtain ⟨m,hm⟩:∃ m,macB k j=m:=⟨_,rfl⟩
 have lm:m.length=32:=by rw [← hm];exact macB_length ..
 have e0:comitB k ls=m:=by rw [comitB,hj,hm]
 have hjc:=fun w1 (h:RowsAt w1 v0 ls)=>join_calls ls v0 w1 h (by omega) (by omega)
 rw [hj] at hb hjc
 have lkm:(bys (k++m)).length=64:=by rw [bys_length,List.length_append];omega
 rw [e0]
 refine enter (n:=17) (R:=fun e L=>e=.returned (.agg (bys (k++m)).toArray)) [.agg (bys k).toArray,v0] F52 rfl rfl rfl (St.refl w) ?_ (fun e w' L' h H=>⟨h,H.kept⟩)
 refine VC_seq<|VC_region<|l_boxA rfl rfl<|fun b2=>l_allocA zr114 rfl<|fun b4=>vl_nil<|th_n<|VC_seq<|VC_drawQ 9 2 [[],[],[1],[0,2],[3],[4],[4],[],[7,5,3,0,1,2,4],[6,8,0,1,2,3,4,5,7]] [[],[],[1],[0,1,2],[0,1,2,3],[0,1,2,3,4],[0,1,2,3,4],[],[0,1,2,3,4,5,7],[0,1,2,3,4,5,6,7,8]] [([],[],[],[0,1],[]),([],[],[],[0,1],[]),([1],[],[],[0,1],[1]),([0,1,2],[],[],[0,1],[0,1,2]),([0,1,2,3],[],[],[0,1],[0,1,2,3]),([0,1,2,3,4],[],[],[0,1],[0,1,2,3,4]),([0,1,2,3,4],[],[],[0,1],[0,1,2,3,4]),([],[],[],[0,1],[]),([0,1,2,3,4,5,7],[],[7],[0,1],[0,1,2,3,4,5])] [0,1] [0,1,2,3,4,5,6,8] rfl rfl (by kernel_rfl) ?_
 refine qp_v (fun xs gs hx=>q_slcA U33 sz5 rfl rfl rfl rfl (.inl rfl) (by omega) (by omega) (by omega) (by omega) (by (try simp only [Nat.mul_one,Nat.zero_add,Nat.zero_mul,Nat.mul_zero,Nat.add_zero])<;>rfl)) ?_
 refine qp_v (fun xs gs hx=>q_move rfl)<|qp_a (fun xs gs hx=>q_callR F47 rfl rfl rfl (fun w1 H1=>hjc w1 (hv.keep H1.kept)))<|qp_v (f:=fun _ _=>.tuple #[.agg (bys m).toArray,.int .i64 0]) (fun xs gs hx=>?_) ?_
 ·obtain ⟨A10,c10,e10,h10,h10'⟩:=hx.1 rfl
  simp only [e10]
  exact q_callV F67 rfl rfl rfl (fun w1 H1=>hm ▸ mac_calls k j _ _ 32 c10 32 hk.symm (by omega) (by omega) (by omega) w1 (Reads.blk 1 rfl w1 H1) (Reads.rowV 2 e10 rfl w1 H1) (by omega) (by omega))
 refine qp_v (fun xs gs hx=>q_move rfl)<|qp_v (fun xs gs hx=>q_ext rfl rfl)<|qp_v (fun xs gs hx=>q_ext rfl rfl)<|qp_a (fun xs gs hx=>q_alloc zr33 rfl) ?_
 refine qp_storeN (fun xs gs hx=>rfl) (fun xs gs hx=>hx.2.1 rfl) (fun xs gs hx=>rfl) (fun xs gs hx=>List.append_nil _) sz33 (fun xs gs hx=>by first | with_reducible assumption | omega | (rw [bys_length];omega) | (simp only [List.length_append,List.length_replicate,bys_length,hk,lm];done) | rfl) (fun xs gs hx=>by first | (with_reducible first | exact bys_one _ | exact u32s_one _ | exact u64s_one _ | exact i64s_one _ | exact n64s_one _ | assumption) | exact bys_one _ | exact u32s_one _ | exact u64s_one _ | exact i64s_one _ | exact one_all rfl | (refine app_one ?_ ?_<;>first | exact bys_one _ | exact one_all rfl | (simp;done))) (fun xs gs hx=>by first | with_reducible assumption | omega | (rw [bys_length];omega) | (simp only [List.length_append,List.length_replicate,bys_length,hk,lm];done) | rfl) ?_
 refine qp_end<|fun xs gs hx=>?_
 obtain ⟨⟨A10,c10,e10,hc10,hm10⟩,⟨b5,e5⟩,_,_⟩:=hx
 simp only [selI,ownsA,List.contains_cons,List.contains_nil,Nat.reduceBEq,Nat.reduceAdd,Bool.or_false,Bool.or_true,Bool.false_or,Bool.true_or,mask,nRow,nBlk,nRowT,tupAt_0,tupAt_1,List.append_assoc,List.nil_append,List.append_nil,List.cons_append,List.singleton_append,e10,e5]
 refine VL.keep (kp [0,1,2,4,13,5] rfl)<|vl_v (q_assign rfl) rfl<|vl_nil<|qn_n<|th_n<|VC_seq<|VC_region<|vl_v (q_loads 1 U33 rfl rfl rfl sz33 (by rw [bys_length];omega)) rfl<|vl_v (q_loads 3 U33 rfl rfl rfl sz33 (by rw [bys_length];omega)) rfl<|vl_v (q_buildS (tot:=64) (sizes:=[32,32]) (c':=bys (k++m)) (by kernel_rfl) rfl rfl rfl rfl (by simp only [List.map_cons,List.map_nil,cellsL,Value.cells,bys_length,hk,lm]) (by simp only [flatV,cellsL,Value.cells,List.map_cons,List.map_nil,List.flatten_cons,List.flatten_nil,List.append_nil,bys_append])) rfl<|l_storeA 0 rfl rfl rfl sz114 (by with_reducible assumption) (by with_reducible first | exact bys_one _ | exact u32s_one _ | exact u64s_one _ | exact i64s_one _ | exact n64s_one _ | assumption) (by simp only [List.length_append,List.length_replicate,bys_length,hk,lm];done) ?_
 simp only [List.set_cons_zero,List.set_cons_succ]
 refine vl_nil<|th_n<|VC_ret<|⟨_,resC1 0 rfl U114 rfl rfl rfl sz114 (by with_reducible assumption),?_⟩
 exact rfl
theorem cmake_calls:Calls Tryz.prog 27 #[.agg (bys k).toArray,v0] w fun e w'=>e=.returned (.agg (bys (comitB k ls)).toArray)∧Kept [] w w':=by
 have hof:=fun w1 h1=>cof_calls k ls v0 hk hn hb w1 h1
 have lm:=comitB_length k ls
 obtain ⟨m,hm⟩:∃ m,comitB k ls=m:=⟨_,rfl⟩
 rw [hm] at hof lm ⊢
 have lbm:(bys m).length=32:=by rw [bys_length];exact lm
 have em:((bys (k++m)).drop 32).take 32=bys m:=by rw [bys_drop,bys_take,List.drop_left' hk,List.take_of_length_le (by omega)]
 refine enter (n:=9) (R:=fun e L=>e=.returned (.agg (bys m).toArray)) [.agg (bys k).toArray,v0] F27 rfl rfl rfl (St.refl w) ?_ (fun e w' L' h H=>⟨h,H.kept⟩)
 refine VC_seq<|VC_region<|l_boxA rfl rfl<|fun b2=>l_allocA zr33 rfl<|fun b4=>vl_nil<|th_n<|VC_seq<|VC_region<|vl_v (q_loads 1 U33 rfl rfl rfl sz33 (by rw [bys_length];omega)) rfl<|vl_v (q_move rfl) rfl<|vl_v (q_callV F52 rfl rfl rfl (fun w1 H1=>hof w1 (hv.keep H1.kept))) rfl<|vl_v (q_fldVA ft114_1 U33 rfl sz33 rfl (by exact em)) rfl ?_
 refine l_storeA 0 rfl rfl rfl sz33 (by with_reducible assumption) (by with_reducible first | exact bys_one _ | exact u32s_one _ | exact u64s_one _ | exact i64s_one _ | exact n64s_one _ | assumption) (by simp only [List.length_append,List.length_replicate,bys_length,hk,lm];done) ?_
 simp only [List.set_cons_zero,List.set_cons_succ]
 refine vl_nil<|th_n<|VC_ret<|⟨_,resC1 0 rfl U33 rfl rfl rfl sz33 (by with_reducible assumption),?_⟩
 exact rfl
theorem ccheck_calls:Calls Tryz.prog 16 #[.agg (bys (comitB k ls)).toArray,.agg (bys k).toArray,v0] w fun e w'=>e=.returned (vN 0)∧Kept [] w w':=by
 have hof:=fun w1 h1=>cof_calls k ls v0 hk hn hb w1 h1
 have lm:=comitB_length k ls
 obtain ⟨m,hm⟩:∃ m,comitB k ls=m:=⟨_,rfl⟩
 rw [hm] at hof lm ⊢
 have l64:(k++m).length=64:=by rw [List.length_append];omega
 refine enter (n:=14) (R:=fun e L=>e=.returned (vN 0)) [.agg (bys m).toArray,.agg (bys k).toArray,v0] F16 rfl rfl rfl (St.refl w) ?_ (fun e w' L' h H=>⟨h,H.kept⟩)
 refine VC_seq<|VC_region<|l_boxA rfl rfl<|fun b3=>l_boxA rfl rfl<|fun b4=>vl_v (q_assign rfl) rfl<|vl_nil<|th_n<|VC_seq<|VC_seq<|VC_drawV 6 [[],[],[0,1],[],[],[3,4],[2,5]] [[],[],[0,1],[],[],[3,4],[0,1,2,3,4,5]] rfl (by kernel_rfl)<|qv_v (q_loads 0 U33 rfl rfl rfl sz33 (by rw [bys_length];omega))<|qv_v (q_move rfl) ?_
 refine qv_v (q_callV F52 rfl rfl rfl (fun w1 H1=>hof w1 (hv.keep H1.kept)))<|qv_v (q_loads 0 U33 rfl rfl rfl sz33 (by rw [bys_length];omega))<|qv_v (q_loads 1 U33 rfl rfl rfl sz33 (by rw [bys_length];omega))<|qv_v (q_buildS (tot:=64) (sizes:=[32,32]) (c':=bys (k++m)) (by kernel_rfl) rfl rfl rfl rfl (by simp only [List.map_cons,List.map_nil,cellsL,Value.cells,bys_length,hk,lm]) (by simp only [flatV,cellsL,Value.cells,List.map_cons,List.map_nil,List.flatten_cons,List.flatten_nil,List.append_nil,bys_append]))<|qv_end<|VL.keep (kp [0,1,2,3,4,6,9,12] rfl)<|vl_v (q_as (v:=.bool false) (q_neB flatMade rfl rfl (fits_bys' l64) (fits_bys' l64)) (by rw [decide_eq_true rfl];rfl)) rfl<|vl_nil<|qn_n<|th_n<|VC_no (rfl)<|VC_skip<|th_n ?_
 refine VC_seq<|VC_region<|vl_v (q_assign rfl) rfl<|vl_nil<|th_n<|VC_ret<|⟨_,res1 rfl rfl,?_⟩
 exact rfl
end
end Go.Proofs.YtfpdnpppcoomnaaGreat
namespace Go.PBYtfpdnpppcoomnaaGreat
open Go Go.RowKit
def ats (X:List Res):List Nat:=X.filterMap Res.at
theorem St.own {S:List Nat} {w0 w:World} {X R:List Res} (H:St S w0 (X++R) w):St (ats X) w X w :=
 ⟨Kept.refl _ _,fun r hr=>H.ok r (List.mem_append_left _ hr),fun r hr b hb=>.inr (List.mem_filterMap.2 ⟨r,hr,hb⟩),H.apart.sublist (List.sublist_append_left _ _)⟩
theorem St.swap {S:List Nat} {w0 w w':World} {X R X':List Res} (H:St S w0 (X++R) w) (H':St (ats X) w X' w'):St S w0 (X'++R) w':=by
 have hT:∀ b,b∈ats X→∃ r∈X,r.at=some b:=fun b hb=>by
  obtain ⟨r,hr,h⟩:=List.mem_filterMap.1 hb
  exact ⟨r,hr,h⟩
 have hX:∀ r∈X,r∈X++R:=fun r hr=>List.mem_append_left _ hr
 have hR:∀ r∈R,r∈X++R:=fun r hr=>List.mem_append_right _ hr
 have hap:=List.pairwise_append.1 H.apart
 have hstay:∀ s∈R,s.ok w':=fun s hs=>Res.of_eq (H.ok s (hR s hs)) fun b hb=>H'.kept.block b (Res.lt (H.ok s (hR s hs)) hb) fun hm=>by
  obtain ⟨r,hr,h⟩:=hT b hm
  exact hap.2.2 r hr s hs b h hb
 refine ⟨⟨H'.kept.os.trans H.kept.os,H'.kept.tape.trans H.kept.tape,H'.kept.output.trans H.kept.output,Nat.le_trans H.kept.size H'.kept.size,fun k hk hn=>?_⟩,?_,?_,?_⟩
 ·rw [H'.kept.block k (Nat.lt_of_lt_of_le hk H.kept.size) fun hm=>?_]
  ·exact H.kept.block k hk hn
  ·obtain ⟨r,hr,h⟩:=hT k hm
   rcases H.new r (hX r hr) k h with h | h
   ·omega
   ·exact hn h
 ·intro s hs
  rcases List.mem_append.1 hs with h | h
  ·exact H'.ok s h
  ·exact hstay s h
 ·intro s hs b hb
  rcases List.mem_append.1 hs with h | h
  ·rcases H'.new s h b hb with h' | h'
   ·exact .inl (Nat.le_trans H.kept.size h')
   ·obtain ⟨r,hr,h2⟩:=hT b h'
    exact H.new r (hX r hr) b h2
  ·exact H.new s (hR s h) b hb
 ·refine List.pairwise_append.2 ⟨H'.apart,hap.2.1,?_⟩
  intro s hs t ht b hb htb
  rcases H'.new s hs b hb with h' | h'
  ·have:=Res.lt (H.ok t (hR t ht)) htb
   omega
  ·obtain ⟨r,hr,h2⟩:=hT b h'
   exact hap.2.2 r hr t ht b h2 htb
section
variable {P : Program} {n : Nat} {S : List Nat} {w0 : World} {Q : QE} {env : Env} {X F : List Res} {c : Code}
theorem VC_frame (h:∀ w,St S w0 (X++F) w→VC P n (ats X) w c (fun e env X'=>Q e env (X'++F)) env X):VC P n S w0 c Q env (X++F) :=
 ⟨fun a w hm H=>wp_mono ((h w H).run a w hm H.own) fun e a' w' ⟨env',X',h1,h2,h3⟩=>⟨env',X'++F,h1,H.swap h2,h3⟩⟩
theorem Reads.own {w w0:World} {L:List Res} {A:Option Addr} {vs:List Value} (hA:SlAt w0 A vs) (H:St [] w0 (X++F) w):Reads (ats X) w L A vs:=by
 have h1:SlAt w A vs:=H.sl0 hA
 intro w' H' j v hj
 obtain ⟨a,e,hc⟩:=h1 j v hj
 refine ⟨a,e,H'.kept.cell hc ?_⟩
 intro hm
 obtain ⟨r,hr,hb⟩:=List.mem_filterMap.1 hm
 obtain ⟨a0,e0,hc0⟩:=hA j v hj
 rw [e] at e0
 cases e0
 have hl:=World.block_lt_of_cell? w0 _ hc0
 rcases H.new r (List.mem_append_left _ hr) _ hb with h | h
 ·omega
 ·simp at h
theorem Reads.rest {w w0:World} {L:List Res} {A:Option Addr} {vs:List Value} (r:Res) (hr:r∈F) (hA:∀ w',r.ok w'→SlAt w' A vs) (H:St S w0 (X++F) w):Reads (ats X) w L A vs:=by
 intro w' H'
 refine hA w' (Res.of_eq (H.ok r (List.mem_append_right _ hr)) fun b hb=>H'.kept.block b (Res.lt (H.ok r (List.mem_append_right _ hr)) hb) fun hm=>?_)
 obtain ⟨x,hx,h⟩:=List.mem_filterMap.1 hm
 exact (List.pairwise_append.1 H.apart).2.2 x hx r hr b h hb
end
section
variable {P : Program} {n : Nat} {S : List Nat} {w0 : World} {env : Env} {L : List Res}
variable {d : Tmp} {ty : TypeId} {pos : String} {af : Array Edge} {g : Option (Nat × Bool)}
theorem run_eqPN {T e:TypeId} {ad:Addr} (hT:P.underlying T=some (.pointer e)) (w:World):(Op.equal T (.pointer (some ad)) (.pointer none)).run P w=.ok false w:=by
 show (Op.equalIn (9999+1) T (.pointer (some ad)) (.pointer none)).run P w=_
 unfold Op.equalIn
 simp [run_underlying hT]
theorem q_eqPN {T T' e:TypeId} {x y:Operand} {ad:Addr} (hT:P.underlying T=some (.pointer e)) (hx:evalE env x=some (.pointer (some ad))) (hy:evalE env y=some (.pointer none)) :
 QT P n S w0 { dst:=some d,op:=.binOp .eql T x y T',type:=ty,pos,after:=af,guard:=g } env L (.val (.bool false)) :=
 q_bin hx hy fun w=>by
  have h2:eqGuard .eql T x y (.pointer (some ad)) (.pointer none)=pure ():=rfl
  have h3:binOp .eql T (.pointer (some ad)) (.pointer none)=(do pure (.bool (← Op.equal T (.pointer (some ad)) (.pointer none)))):=rfl
  rw [h2,h3]
  simp [run_eqPN hT]
theorem q_nePN {T T' e:TypeId} {x y:Operand} {ad:Addr} (hT:P.underlying T=some (.pointer e)) (hx:evalE env x=some (.pointer (some ad))) (hy:evalE env y=some (.pointer none)) :
 QT P n S w0 { dst:=some d,op:=.binOp .neq T x y T',type:=ty,pos,after:=af,guard:=g } env L (.val (.bool true)) :=
 q_bin hx hy fun w=>by
  have h2:eqGuard .neq T x y (.pointer (some ad)) (.pointer none)=pure ():=rfl
  have h3:binOp .neq T (.pointer (some ad)) (.pointer none)=(do pure (.bool (!(← Op.equal T (.pointer (some ad)) (.pointer none))))):=rfl
  rw [h2,h3]
  simp [run_eqPN hT]
end
theorem resCTT {P:Program} {n:Nat} {S:List Nat} {w0:World} {env:Env} {L:List Res} {fn:Func} {s u r:Tmp} {t:TypeId} {dd:TypeDesc} {b sz:Nat} {T:TypeId} {c:List Value} {v x:Value} (k:Nat) (h:fn.results=#[.cell u t,.tmp s,.tmp r]) (hu:P.underlying t=some dd) (hd:(match dd with | .struct _ | .array _ _=>true | _=>false)=true) (hb:look u env=some (vP b 0)) (hk:L[k]?=some (.blk b T c)) (hi:(P.info? t).map (·.size)=some sz) (hl:c.length=sz) (hs:look s env=some v) (hr:look r env=some x) :
 ResE P n S w0 fn env L (.tuple #[.agg c.toArray,v,x]):=fun a w hm H=>by
 have h1:=hm.get s _ hs
 have h3:=hm.get u _ hb
 have h5:=hm.get r _ hr
 have h2:=run_loadVarA hu hd (by rw [hi,hl]) (H.blk hk).sl0
 simp [results,h,Array.getD_eq_getD_getElem?,h1,h3,h5,asAddr,h2]
theorem ofFn_of {α:Type} {l:List α} {n:Nat} (h:l.length=n):∃ f:Fin n→α,l=List.ofFn f:=by
 subst h
 exact ⟨fun i=>l[i],(List.ofFn_getElem (xs:=l)).symm⟩
theorem VC_asRow {P:Program} {n:Nat} {S:List Nat} {w0:World} {Q:QE} {env:Env} {L:List Res} {c:Code} {b:Nat} {T:TypeId} {k:List UInt8} {m:Nat} (hl:k.length=m) (hm:m≤1000) (h:VC P n S w0 c Q env (.row T 1 (.slice (some ⟨b,0,none⟩) m m) m (bys k)::L)):VC P n S w0 c Q env (.blk b T (bys k)::L) :=
 VC_sub h (Sub.refl _) (fun w H=>H.toRow (k:=0) (size:=1) rfl (by rw [bys_length];omega) (by unfold maxLen;omega))
section
variable {P : Program} {n : Nat} {S : List Nat} {w0 : World} {d : Tmp} {ty : TypeId} {pos : String} {af : Array Edge} {g : Option (Nat × Bool)} {env : Env} {L : List Res}
theorem run_eqNN {T e:TypeId} (hT:P.underlying T=some (.pointer e)) (w:World):(Op.equal T (.pointer none) (.pointer none)).run P w=.ok true w:=by
 show (Op.equalIn (9999+1) T (.pointer none) (.pointer none)).run P w=_
 unfold Op.equalIn
 simp [run_underlying hT]
theorem q_eqNN {T T' e:TypeId} {x y:Operand} (hT:P.underlying T=some (.pointer e)) (hx:evalE env x=some (.pointer none)) (hy:evalE env y=some (.pointer none)) :
 QT P n S w0 { dst:=some d,op:=.binOp .eql T x y T',type:=ty,pos,after:=af,guard:=g } env L (.val (.bool true)) :=
 q_bin hx hy fun w=>by
  have h2:eqGuard .eql T x y (.pointer none) (.pointer none)=pure ():=rfl
  have h3:binOp .eql T (.pointer none) (.pointer none)=(do pure (.bool (← Op.equal T (.pointer none) (.pointer none)))):=rfl
  rw [h2,h3]
  simp [run_eqNN hT]
theorem q_neNN {T T' e:TypeId} {x y:Operand} (hT:P.underlying T=some (.pointer e)) (hx:evalE env x=some (.pointer none)) (hy:evalE env y=some (.pointer none)) :
 QT P n S w0 { dst:=some d,op:=.binOp .neq T x y T',type:=ty,pos,after:=af,guard:=g } env L (.val (.bool false)) :=
 q_bin hx hy fun w=>by
  have h2:eqGuard .neq T x y (.pointer none) (.pointer none)=pure ():=rfl
  have h3:binOp .neq T (.pointer none) (.pointer none)=(do pure (.bool (!(← Op.equal T (.pointer none) (.pointer none))))):=rfl
  rw [h2,h3]
  simp [run_eqNN hT]
end
section
variable {P : Program} {n : Nat} {S : List Nat} {w0 : World} {Z : List PanicEntry → World → Prop} {ops : Array Oper} {L : List Res} {d : Tmp} {ty : TypeId} {pos : String} {af : Array Edge} {F : (Xs → Xs → Env) → AkP → Prop} {k : Nat} {C ti to xi xo : List Nat} {Ts : List T5} {E : Xs → Xs → Env} {A : AkP} {rest : List Oper}
theorem qp_storeC {t:TypeId} {x y:Operand} {b sz:Nat} {j:Nat} {T:TypeId} {c c' vs:Xs→Xs→List Value} {v:Xs→Xs→Value} (hx:∀ xs gs:Xs,factsAP C xs gs A→evalE (E xs gs) x=some (vP b j)) (hy:∀ xs gs:Xs,factsAP C xs gs A→evalE (E xs gs) y=some (v xs gs))
 (hv:∀ xs gs:Xs,factsAP C xs gs A→(v xs gs).cells.toList=vs xs gs) (hp:∀ xs gs:Xs,factsAP C xs gs A→selI (fun j=>ti.contains j) 0 L++ownsA (fun j=>to.contains j) xs gs A=[.blk b T (c xs gs)]) (hi:(P.info? t).map (·.size)=some sz) (hs:∀ xs gs:Xs,factsAP C xs gs A→(vs xs gs).length=sz) (h1:∀ xs gs:Xs,factsAP C xs gs A→∀ u∈vs xs gs,u.oneCell'=true)
 (hl:∀ xs gs:Xs,factsAP C xs gs A→j+sz≤(c xs gs).length) (hc:∀ xs gs:Xs,factsAP C xs gs A→splice (c xs gs) j (vs xs gs)=c' xs gs)
 (h:quietsP P n S w0 Z ops L F (k+1) rest Ts E (A++[(k,C,fun _ _ v _=>v=undef,fun xs gs _ _=>[.blk b T (c' xs gs)])])) :
 quietsP P n S w0 Z ops L F k ({ dst:=none,op:=.store t x y,type:=ty,pos,after:=af,guard:=none }::rest) ((C,ti,to,xi,xo)::Ts) E A :=
 qp_of (s:=.any (fun _ _ v _=>v=undef) (fun xs gs _ _=>[.blk b T (c' xs gs)])) (fun xs gs hf=>.inl ⟨trivial,by
  rw [hp xs gs hf]
  exact ⟨fun a w R hm H=>opw_store (k:=0) H rfl (hm.eval (hx xs gs hf)) (by rw [hm.eval (hy xs gs hf)];exact hv xs gs hf) (by rw [hi,hs xs gs hf]) (by rw [hs xs gs hf];exact hl xs gs hf) (h1 xs gs hf) fun w' H'=>⟨undef,undef,rfl,fun _=>rfl,rfl,by rw [hc xs gs hf] at H';exact H'⟩⟩⟩) h
theorem one_one {v:Value} (h:v.oneCell'=true):∀ u∈[v],u.oneCell'=true:=fun u hu=>List.mem_singleton.1 hu ▸ h
end
def isSlT3 (m:Nat) (u x v:Value):Prop:=∃ A c,v=.tuple #[.slice A m c,u,x]∧m≤c∧c≤maxLen
theorem tupAt3_0 (a b c:Value):tupAt (.tuple #[a,b,c]) 0=a:=rfl
section
variable {P : Program} {n : Nat} {S : List Nat} {w0 : World} {d : Tmp} {ty : TypeId} {pos : String} {af : Array Edge} {g : Option (Nat × Bool)} {env : Env} {L : List Res}
theorem q_callT3 {f:FuncId} {fn:Func} {xs:Array Operand} {ats:Array TypeId} {args:List Value} {T:TypeId} {size m:Nat} {cs:List Value} {u x:Value} (hf:P.funcs[f]?=some fn) (hb:fn.body.isSome=true) (hn:(fn.name == "runtime.NumGoroutine")=false) (hx:evalsE env xs.toList=some args)
 (hc:∀ w,St S w0 L w→Calls P f args.toArray w (fun e w'=>∃ v,e=.returned (.tuple #[v,u,x])∧St [] w [.row T size v m cs] w')) :
 QT P n S w0 { dst:=some d,op:=.call { callee:=.value (.func f),args:=xs,argTypes:=ats },type:=ty,pos,after:=af,guard:=g } env L (.any (isSlT3 m u x) (nRowT T size m cs)) :=
 q_call (s:=.any (isSlT3 m u x) (nRowT T size m cs)) hf hb hn hx fun w H=>(hc w H).mono fun e w' ⟨v,h1,h2⟩=>⟨.tuple #[v,u,x],h1,by
  have hrow:Res.ok w' (.row T size v m cs):=h2.get (k:=0) rfl
  obtain ⟨A,c,h3,h4,h5,_⟩:=Row.slice hrow
  exact ⟨⟨A,c,by rw [h3],h4,h5⟩,h2⟩⟩
end
end Go.PBYtfpdnpppcoomnaaGreat
namespace Go.PBYtfpdnpppcoomnaaGreat
open Go Go.RowKit Go.ChangeMaps
def MapOf (o:Obj) (E:List (Value × Value)):Prop:=∃ es clock,o=.map es clock∧es.toList.map (fun e=>(e.key,e.val))=E
theorem MapOf.get {es:Array MapEntry} {E:List (Value × Value)} (h:es.toList.map (fun e=>(e.key,e.val))=E) {j:Nat} {e:MapEntry} (hj:es.toList[j]?=some e):E[j]?=some (e.key,e.val):=by
 rw [← h,List.getElem?_map,hj];rfl
theorem MapOf.no {es:Array MapEntry} {E:List (Value × Value)} (h:es.toList.map (fun e=>(e.key,e.val))=E) {kv:Value} (hn:∀ e∈es.toList,e.key≠kv):∀ p∈E,p.1≠kv:=by
 intro p hp
 rw [← h] at hp
 obtain ⟨e,he,rfl⟩:=List.mem_map.1 hp
 exact hn e he
theorem MapOf.keys {P:Program} {kt:TypeId} {es:Array MapEntry} {E:List (Value × Value)} (h:es.toList.map (fun e=>(e.key,e.val))=E) (hall:∀ p∈E,∃ l,keyOf P kt p.1=some l):∀ e∈es.toList,∃ l,keyOf P kt e.key=some l:=by
 intro e he
 exact hall (e.key,e.val) (by rw [← h];exact List.mem_map.2 ⟨e,he,rfl⟩)
theorem grownBy_setBlock (w:World) (b:Nat) (o:Obj):w.grownBy (setBlock w b o) (some b) :=
 ⟨rfl,rfl,rfl,by simp [setBlock],fun k hk hn=>by
  simp only [setBlock]
  rw [Array.getElem?_setIfInBounds_ne (by intro e;subst e;exact hn rfl)]⟩
theorem setBlock_at {w:World} {b:Nat} {o:Obj} (h:b<w.heap.size):(setBlock w b o).heap[b]?=some o:=by
 simp [setBlock,Array.getElem?_setIfInBounds,h]
section
variable {P : Program} {S : List Nat} {w0 w : World} {L : List Res} {Q : Exit → Act → World → Prop} {a : Act} {dst : Option Tmp} {ty : TypeId} {pos : String} {af : Array Edge} {g : Option (Nat × Bool)}
theorem opw_makeMap {K:Act→World→Prop} {t:TypeId} (H:St S w0 L w)
 (h:∀ w' b o,MapOf o []→St S w0 (L++[.obj b o]) w'→K (a.put dst (.map (some b))) w'):Oper.wp P { dst,op:=.makeMap t none,type:=ty,pos,after:=af,guard:=g } a w K Q:=by
 refine opw_val (v:=.map (some w.heap.size)) (w':=w.alloc (.map #[] 0)) (by simp [execOp,Instr.makeMap])<|h _ _ (.map #[] 0) ⟨#[],0,rfl,rfl⟩ (H.add (World.grownBy_alloc w _ none) (heap_alloc_new w (.map #[] 0)) (by simp [Res.at]))
theorem opw_lookup2 {K:Act→World→Prop} {t kt et:TypeId} {x y:Operand} {b:Nat} {o:Obj} {E:List (Value × Value)} {kv z:Value} {l:Lit} {i:TypeInfo} (F:WideMaps.KeyLaw P kt) (hu:P.underlying t=some (.map kt et)) (hi:P.info? et=some i) (hz:i.zero=some z)
 (ho:w.heap[b]?=some o) (hE:MapOf o E) (hx:a.eval x=.map (some b)) (hy:a.eval y=kv) (hkey:keyOf P kt kv=some l) (hall:∀ p∈E,∃ l,keyOf P kt p.1=some l)
 (hno:(∀ p∈E,p.1≠kv)→K (a.put dst (.tuple #[z,.bool false])) w) (hyes:∀ (j:Nat) v,E[j]?=some (kv,v)→K (a.put dst (.tuple #[v,.bool true])) w) :
 Oper.wp P { dst,op:=.lookup t x y true,type:=ty,pos,after:=af,guard:=g } a w K Q:=by
 obtain ⟨es,clock,rfl,hE⟩:=hE
 have hzw:(zeroValue et).run P w=.ok z w:=by simp [zeroValue,typeInfo,hi,hz]
 rcases F.find w hkey es.toList (MapOf.keys hE hall) with ⟨h1,h2⟩ | ⟨j,e0,h1,h2,h3⟩
 ·exact opw_val (v:=.tuple #[z,.bool false]) (w':=w) (by simp [execOp,hx,hy,Instr.lookup,run_underlying hu,MapKept.run_getObj_map ho,F.check w _ hkey,h1,hzw,Result.andThen]) (hno (MapOf.no hE h2))
 ·refine opw_val (v:=.tuple #[e0.val,.bool true]) (w':=w) (by simp [execOp,hx,hy,Instr.lookup,run_underlying hu,MapKept.run_getObj_map ho,F.check w _ hkey,h1,hzw,Result.andThen]) (hyes j e0.val ?_)
  rw [MapOf.get hE h2,h3]
theorem opw_update {K:Act→World→Prop} {t kt et:TypeId} {x y u:Operand} {b k:Nat} {o:Obj} {E:List (Value × Value)} {kv v:Value} {l:Lit} (F:WideMaps.KeyLaw P kt) (hu:P.underlying t=some (.map kt et))
 (H:St S w0 L w) (hk:L[k]?=some (.obj b o)) (hE:MapOf o E) (hx:a.eval x=.map (some b)) (hy:a.eval y=kv) (hv:a.eval u=v) (hkey:keyOf P kt kv=some l) (hall:∀ p∈E,∃ l,keyOf P kt p.1=some l)
 (hno:∀ p∈E,p.1≠kv) (h:∀ w' o',MapOf o' (E++[(kv,v)])→St S w0 (L.set k (.obj b o')) w'→K (a.put dst undef) w') :
 Oper.wp P { dst,op:=.mapUpdate t x y u,type:=ty,pos,after:=af,guard:=g } a w K Q:=by
 obtain ⟨es,clock,rfl,hE⟩:=hE
 have ho:w.heap[b]?=some (.map es clock):=H.ok _ (List.mem_of_getElem? hk)
 have hlt:b<w.heap.size:=(Array.getElem?_eq_some_iff.1 ho).1
 rcases F.find w hkey es.toList (MapOf.keys hE hall) with ⟨h1,h2⟩ | ⟨j,e0,h1,h2,h3⟩
 ·refine opw_skip (w':=setBlock w b (.map (es.push ⟨kv,v,clock⟩) (clock+1))) (by simp [execOp,hx,hy,hv,Instr.mapUpdate,run_underlying hu,MapKept.run_getObj_map ho,F.check w false hkey,h1,MapKept.run_setObj_map _ ho,Result.andThen,setBlock])<|h _ (.map (es.push ⟨kv,v,clock⟩) (clock+1)) ⟨_,_,rfl,by simp [hE]⟩ (H.change hk (grownBy_setBlock w b _) (setBlock_at hlt) (fun b' hb'=>.inl hb'))
 ·exact absurd h3 (by
   have:=hno (e0.key,e0.val) (List.mem_of_getElem? (MapOf.get hE h2))
   exact this)
theorem opw_delete {K:Act→World→Prop} {t kt et:TypeId} {x y:Operand} {b k:Nat} {o:Obj} {E:List (Value × Value)} {kv:Value} {l:Lit} (F:WideMaps.KeyLaw P kt) (hu:P.underlying t=some (.map kt et))
 (H:St S w0 L w) (hk:L[k]?=some (.obj b o)) (hE:MapOf o E) (hx:a.eval x=.map (some b)) (hy:a.eval y=kv) (hkey:keyOf P kt kv=some l) (hall:∀ p∈E,∃ l,keyOf P kt p.1=some l)
 (hno:(∀ p∈E,p.1≠kv)→∀ w',St S w0 L w'→K (a.put dst (.tuple #[])) w')
 (hyes:∀ (j:Nat) v w' o',E[j]?=some (kv,v)→MapOf o' (E.eraseIdx j)→St S w0 (L.set k (.obj b o')) w'→K (a.put dst (.tuple #[])) w') :
 Oper.wp P { dst,op:=.call { callee:=.builtin .delete,args:=#[x,y],argTypes:=#[t,kt] },type:=ty,pos,after:=af,guard:=g } a w K Q:=by
 obtain ⟨es,clock,rfl,hE⟩:=hE
 have ho:w.heap[b]?=some (.map es clock):=H.ok _ (List.mem_of_getElem? hk)
 have hlt:b<w.heap.size:=(Array.getElem?_eq_some_iff.1 ho).1
 rcases F.find w hkey es.toList (MapOf.keys hE hall) with ⟨h1,h2⟩ | ⟨j,e0,h1,h2,h3⟩
 ·have e:setBlock w b (.map es clock)=w:=by
   unfold setBlock
   obtain ⟨h5,h6⟩:=Array.getElem?_eq_some_iff.1 ho
   have:w.heap.setIfInBounds b (.map es clock)=w.heap:=by
    apply Array.ext_getElem?
    intro i
    rw [Array.getElem?_setIfInBounds]
    split
    ·rename_i hi;subst hi;exact ho.symm
    ·rfl
   rw [this]
  have hr:(Builtin.delete_ #[t,kt] ty #[.map (some b),kv]).run P w=.ok (.tuple #[]) (setBlock w b (.map es clock)):=by
   simp [Builtin.delete_,run_underlying hu,MapKept.run_getObj_map ho,F.check w _ hkey,h1,MapKept.run_setObj_map _ ho,Result.andThen,setBlock]
  refine opw_val (v:=.tuple #[]) (w':=setBlock w b (.map es clock)) (by simp only [BigFrame.execOp_builtin,BigFrame.builtin_delete,List.map_toArray,List.map_cons,List.map_nil,hx,hy,Sem.run_bind,hr,Result.andThen_ok,Sem.run_pure]) ?_
  rw [e]
  exact hno (MapOf.no hE h2) w H
 ·have hjs:j<es.size:=by simpa using (List.getElem?_eq_some_iff.1 h2).1
  have hsub:(es.eraseIdxIfInBounds j).toList=es.toList.eraseIdx j:=by
   unfold Array.eraseIdxIfInBounds
   rw [dif_pos hjs]
   simp
  have hr:(Builtin.delete_ #[t,kt] ty #[.map (some b),kv]).run P w=.ok (.tuple #[]) (setBlock w b (.map (es.eraseIdxIfInBounds j) clock)):=by
   simp [Builtin.delete_,run_underlying hu,MapKept.run_getObj_map ho,F.check w _ hkey,h1,MapKept.run_setObj_map _ ho,Result.andThen,setBlock]
  refine opw_val (v:=.tuple #[]) (w':=setBlock w b (.map (es.eraseIdxIfInBounds j) clock)) (by simp only [BigFrame.execOp_builtin,BigFrame.builtin_delete,List.map_toArray,List.map_cons,List.map_nil,hx,hy,Sem.run_bind,hr,Result.andThen_ok,Sem.run_pure])<|hyes j e0.val _ (.map (es.eraseIdxIfInBounds j) clock) (by rw [MapOf.get hE h2,h3]) ⟨_,_,rfl,by rw [hsub,map_eraseIdx,hE]⟩ (H.change hk (grownBy_setBlock w b _) (setBlock_at hlt) (fun b' hb'=>.inl hb'))
end
end Go.PBYtfpdnpppcoomnaaGreat
namespace Go.PBYtfpdnpppcoomnaaGreat
open Go Go.RowKit
structure Ent where
 p:List UInt8
 n:Int
 k:List UInt8
deriving DecidableEq
def Ent.key (e:Ent):List UInt8 × Int:=(e.p,e.n)
structure Ent.ok (e:Ent):Prop where
 p:e.p.length=32
 k:e.k.length=32
 n:(Lit.int .i64 e.n).wf=true
def kc (x:List UInt8 × Int):List Value:=bys x.1++[.int .i64 x.2]
def Ent.kc (e:Ent):List Value:=PBYtfpdnpppcoomnaaGreat.kc e.key
def ordC (L:List Ent):List Value:=(L.map Ent.kc).flatten
def mapE (L:List Ent):List (Value × Value):=L.map fun e=>(.agg e.kc.toArray,.agg (bys e.k).toArray)
structure GoodL (L:List Ent):Prop where
 ok:∀ e∈L,e.ok
 keys:(L.map Ent.key).Nodup
theorem bys_inj:∀ {a b:List UInt8},bys a=bys b→a=b
 | [],[],_=>rfl
 | [],_::_,h=>by simp [bys] at h
 | _::_,[],h=>by simp [bys] at h
 | x::a,y::b,h=>by
  simp only [bys,List.map_cons,List.cons.injEq,Value.int.injEq,true_and] at h
  have h1:x=y:=UInt8.toNat_inj.1 (by omega)
  rw [h1,bys_inj (show bys a=bys b from h.2)]
theorem kc_length {x:List UInt8 × Int} (h:x.1.length=32):(kc x).length=33:=by simp [kc,bys,h]
theorem kc_inj {x y:List UInt8 × Int} (h:kc x=kc y):x=y:=by
 obtain ⟨p,n⟩:=x
 obtain ⟨q,m⟩:=y
 simp only [kc] at h
 have h1:=List.append_inj' h (by simp)
 have h2:=bys_inj h1.1
 have h3:n=m:=by simpa using h1.2
 rw [h2,h3]
def ofKinds:List IntKind:=List.replicate 32 .u8++[.i64]
theorem fits_kc {x:List UInt8 × Int} (h:x.1.length=32) (hn:(Lit.int .i64 x.2).wf=true):Fits (kc x) ofKinds:=by
 have h1:=fits_bys x.1
 rw [h] at h1
 exact h1.append (fits_int hn)
theorem ordC_length {L:List Ent} (h:∀ e∈L,e.ok):(ordC L).length=L.length*33:=by
 induction L with
 | nil=>rfl
 | cons e L ih =>
  have h1:=ih (fun x hx=>h x (by simp [hx]))
  have h2:e.kc.length=33:=kc_length (h e (by simp)).p
  simp only [ordC,List.map_cons,List.flatten_cons,List.length_append] at h1 ⊢
  rw [h1,h2,List.length_cons]
  omega
theorem ordC_append (L M:List Ent):ordC (L++M)=ordC L++ordC M:=by simp [ordC]
theorem ordC_part {L:List Ent} (h:∀ e∈L,e.ok) {j:Nat} {e:Ent} (hj:L[j]?=some e):((ordC L).drop (j*33)).take 33=e.kc:=by
 have hlt:=(List.getElem?_eq_some_iff.1 hj).1
 have hs:L=L.take j++e::L.drop (j+1):=by
  conv=>lhs;rw [← List.take_append_drop j L]
  congr 1
  rw [List.drop_eq_getElem_cons hlt]
  congr 1
  exact (List.getElem?_eq_some_iff.1 hj).2
 have hm:e∈L:=List.mem_of_getElem? hj
 have h1:(ordC (L.take j)).length=j*33:=by
  rw [ordC_length (fun x hx=>h x (List.mem_of_mem_take hx)),List.length_take,Nat.min_eq_left (by omega)]
 have h2:e.kc.length=33:=kc_length (h e hm).p
 have h3:ordC L=ordC (L.take j)++(e.kc++ordC (L.drop (j+1))):=by
  conv=>lhs;rw [hs]
  simp [ordC]
 rw [h3,List.drop_left' h1,List.take_left' h2]
theorem ordC_erase {L:List Ent} (h:∀ e∈L,e.ok) (j:Nat):ordC (L.eraseIdx j)=(ordC L).take (j*33)++(ordC L).drop ((j+1)*33):=by
 by_cases hj:j<L.length
 ·have h1:(ordC (L.take j)).length=j*33:=by
   rw [ordC_length (fun x hx=>h x (List.mem_of_mem_take hx)),List.length_take,Nat.min_eq_left (by omega)]
  have h2:(ordC (L.take (j+1))).length=(j+1)*33:=by
   rw [ordC_length (fun x hx=>h x (List.mem_of_mem_take hx)),List.length_take,Nat.min_eq_left (by omega)]
  have e1:ordC L=ordC (L.take j)++ordC (L.drop j):=by rw [← ordC_append,List.take_append_drop]
  have e2:ordC L=ordC (L.take (j+1))++ordC (L.drop (j+1)):=by rw [← ordC_append,List.take_append_drop]
  rw [List.eraseIdx_eq_take_drop_succ,ordC_append]
  congr 1
  ·rw [e1,List.take_left' h1]
  ·rw [e2,List.drop_left' h2]
 ·rw [List.eraseIdx_of_length_le (by omega),List.take_of_length_le (by rw [ordC_length h];omega),List.drop_eq_nil_of_le (by rw [ordC_length h];omega),List.append_nil]
theorem GoodL.erase {L:List Ent} (h:GoodL L) (j:Nat):GoodL (L.eraseIdx j) :=
 ⟨fun e he=>h.ok e ((List.eraseIdx_sublist L j).subset he),((List.eraseIdx_sublist L j).map _).nodup h.keys⟩
theorem mapE_erase (L:List Ent) (j:Nat):mapE (L.eraseIdx j)=(mapE L).eraseIdx j:=by
 simp only [mapE]
 rw [Go.ChangeMaps.map_eraseIdx]
end Go.PBYtfpdnpppcoomnaaGreat
namespace Go.Proofs.YtfpdnpppcoomnaaGreat
open Go.RowKit Go.PBYtfpdnpppcoomnaaGreat
theorem laid11:laidOutB Tryz.prog=true:=by kernel_rfl
theorem flatOf:Flat Tryz.prog 189 ofKinds :=
 flat_of (m:=3) laid11 (by omega) (of_decide_eq_true (by kernel_rfl)) (by kernel_rfl) (by kernel_rfl) (by kernel_rfl) (by kernel_rfl) (by kernel_rfl) (by kernel_rfl)
theorem ofSize:(Tryz.prog.info? 189).map (·.size)=some 33:=by kernel_rfl
theorem index_calls (L:List Ent) (j:Nat) (e:Ent) (hj:L[j]?=some e) (hG:GoodL L) (hn:L.length≤1000000) (A:Option Addr) (c:Nat) (w:World) (hA:SlAt w A (ordC L)) (hc:L.length≤c) :
 Calls Tryz.prog 117 #[.slice A L.length c,.agg e.kc.toArray] w fun r w'=>r=.returned (.int .i64 j)∧Kept [] w w':=by
 have H:=St.refl w
 have hj':=Lib.hid hj
 have hG':=Lib.hid hG
 have hjl:j<L.length:=(List.getElem?_eq_some_iff.1 hj).1
 have hem:Hid (e∈L):=List.mem_of_getElem? hj
 obtain ⟨ad,rfl⟩:∃ ad,A=some ad:=by
  have:=ordC_length hG.ok
  obtain ⟨a,ha,_⟩:=hA 0 _ (List.getElem?_eq_getElem (show 0<(ordC L).length by omega))
  exact ⟨a,ha⟩
 clear hj hG
 go_enter F117,Tryz.ntmps117
 go_wp2_with (with_reducible refine stop_box ?_)
 refine wpl_want rfl (opw_box (c:=e.kc) H rfl ?_)
 intro w1 b H1
 go_wp2_with (with_reducible refine stop_box ?_)
 go_loopw [5,8] (fun u i wr=>∃ k:Nat,k≤j∧i=.int .i64 k∧St [] w [.blk b 189 e.kc] wr) (fun _ i _=>j-(intOf i).toNat)
 case atStart=>exact ⟨0,by omega,rfl,H1⟩
 case round =>
  obtain ⟨k,hk,rfl,Hr⟩:=hrel
  obtain ⟨x,hx⟩:∃ x,L[k]?=some x:=⟨_,List.getElem?_eq_getElem (by omega)⟩
  have hxm:Hid (x∈L):=List.mem_of_getElem? hx
  have hpart:Hid (((ordC L).drop (k*33)).take 33=x.kc):=ordC_part hG'.out.ok hx
  have hx':=Lib.hid hx
  clear hx
  obtain ⟨r,hr⟩:∃ r:Bool,Hid (r=true↔e.key=x.key):=⟨decide (e.key=x.key),decide_eq_true_iff⟩
  have hkl:decide ((k:Int)<(L.length:Int))=true:=by simp;omega
  go_wp2_with (with_reducible refine stop_box ?_)
  refine wp_region_all (n:=19) (fun w'=>St [] w [.blk b 189 e.kc] w') (regF [fun v _=>v=.agg e.kc.toArray,fun v _=>v=.slice (some ad) L.length c,fun v _=>v=.int .i64 k,fun v _=>v=.pointer (some (ad.add (k*33))),fun v _=>v=.agg x.kc.toArray,fun v _=>v=.bool r]) [[],[],[],[(12,1),(13,2)],[(14,3)],[(11,0),(15,4)]] [(11,0),(12,1),(13,2),(14,3),(15,4),(16,5)] (by kernel_rfl) (by kernel_rfl) rfl Hr.drew (regF_stable ⟨Stable.eq _,Stable.eq _,Stable.eq _,Stable.eq _,Stable.eq _,Stable.eq _,trivial⟩) ⟨?_,?_,?_,?_,?_,?_,trivial⟩ ?_
  ·intro vx w9 hC hF
   clear hF
   refine .inl ⟨trivial,?_⟩
   simp only [putsOf]
   exact opw_loads (c:=e.kc) U189 rfl (by rw [ofSize,Ent.kc,kc_length (hG'.out.ok e hem.out).p]) rfl (Blk.sl0 (hC.blk (k:=0) rfl)) ⟨_,rfl,by simp,hC,Kept.refl _ _,rfl⟩
  ·intro vx w9 hC hF
   clear hF
   refine .inl ⟨trivial,?_⟩
   simp only [putsOf]
   exact opw_val (v:=.slice (some ad) L.length c) (w':=w9) (by go_simp<;>(simp only [IntKind.wrap_u64,IntKind.wrap_i64]<;>omega)) ⟨_,rfl,by simp,hC,(Kept.refl _ _),rfl⟩
  ·intro vx w9 hC hF
   clear hF
   refine .inl ⟨trivial,?_⟩
   simp only [putsOf]
   exact opw_val (v:=.int .i64 k) (w':=w9) (by go_simp<;>(simp only [IntKind.wrap_u64,IntKind.wrap_i64]<;>omega)) ⟨_,rfl,by simp,hC,(Kept.refl _ _),rfl⟩
  ·intro vx w9 hC hF
   have q1:(vx 1)=.slice (some ad) L.length c:=hF (12,1) (by simp)
   have q2:(vx 2)=.int .i64 k:=hF (13,2) (by simp)
   clear hF
   refine .inl ⟨trivial,?_⟩
   simp only [putsOf,q1,q2]
   exact opw_val (v:=.pointer (some (ad.add (k*33)))) (w':=w9) (by go_simp<;>(simp only [IntKind.wrap_u64,IntKind.wrap_i64]<;>omega)) ⟨_,rfl,by simp,hC,(Kept.refl _ _),rfl⟩
  ·intro vx w9 hC hF
   have q3:(vx 3)=.pointer (some (ad.add (k*33))):=hF (14,3) (by simp)
   clear hF
   refine .inl ⟨trivial,?_⟩
   simp only [putsOf,q3]
   exact opw_loads (c:=x.kc) U189 rfl (by rw [ofSize,Ent.kc,kc_length (hG'.out.ok x hxm.out).p]) rfl (by rw [← hpart.out];exact ((hA.keep hC.kept).drop (k*33)).take 33) ⟨_,rfl,by simp,hC,Kept.refl _ _,rfl⟩
  ·intro vx w9 hC hF
   have q0:(vx 0)=.agg e.kc.toArray:=hF (11,0) (by simp)
   have q4:(vx 4)=.agg x.kc.toArray:=hF (15,4) (by simp)
   clear hF
   refine .inl ⟨trivial,?_⟩
   simp only [putsOf,q0,q4]
   exact opw_eqA flatOf rfl rfl (fits_kc (hG'.out.ok e hem.out).p (hG'.out.ok e hem.out).n) (fits_kc (hG'.out.ok x hxm.out).p (hG'.out.ok x hxm.out).n) (hr.out.trans ⟨fun h=>by unfold Ent.kc;rw [h],fun h=>kc_inj h⟩) ⟨_,rfl,by simp,hC,Kept.refl _ _,rfl⟩
  intro vx w9 hC hF
  have q0:(vx 0)=.agg e.kc.toArray:=hF 0 (by simp)
  have q1:(vx 1)=.slice (some ad) L.length c:=hF 1 (by simp)
  have q2:(vx 2)=.int .i64 k:=hF 2 (by simp)
  have q3:(vx 3)=.pointer (some (ad.add (k*33))):=hF 3 (by simp)
  have q4:(vx 4)=.agg x.kc.toArray:=hF 4 (by simp)
  have q5:(vx 5)=.bool r:=hF 5 (by simp)
  clear hF
  simp only [putsOf,q0,q1,q2,q3,q4,q5]
  simp only [Act.put,List.setIfInBounds_toArray,List.set_cons_succ,List.set_cons_zero]
  clear q0 q1 q2 q3 q4 q5
  by_cases hkj:k=j
  ·subst hkj
   have:x=e:=by
    have h1:=hx'.out
    rw [hj'.out] at h1
    exact (Option.some.inj h1).symm
   subst this
   obtain rfl:r=true:=hr.out.2 rfl
   go_wp2_with (with_reducible refine stop_box ?_)
   go_ret
   exact ⟨rfl,hC.kept⟩
  ·have hne:r=false:=by
    rw [← Bool.not_eq_true,hr.out]
    intro h
    have hnd:=hG'.out.keys
    have h1:(L.map Ent.key)[k]?=some x.key:=by rw [List.getElem?_map,hx'.out];rfl
    have h2:(L.map Ent.key)[j]?=some e.key:=by rw [List.getElem?_map,hj'.out];rfl
    rw [h] at h2
    have hk1:k<(L.map Ent.key).length:=by simp;omega
    exact hkj ((List.getElem?_inj hk1 hnd).1 (h1.trans h2.symm))
   subst hne
   go_wp2_with (with_reducible refine stop_box ?_)
   exact ⟨⟨k+1,by omega,by go_num,hC⟩,by simp [intOf];omega⟩
theorem ofZero:(Tryz.prog.info? 189).map (fun i=>(i.zero,i.size))=some (some (Value.agg ((List.replicate 32 (Value.int .u8 0))++[Value.int .i64 0]).toArray),33):=by kernel_rfl
def DlC (S:List Nat) (w0:World) (LL:List Res) (q b:Nat) (c0 c1:List Value) (s:Nat) (w':World):Prop :=
 match s with
 | 0=>St S w0 (LL.set q (.blk b 189 c0)) w'
 | _=>St S w0 (LL.set q (.blk b 189 c1)) w'
theorem delete_calls {S:List Nat} {w0 w:World} {LL:List Res} {q n:Nat} {v:Value} {xs:List Value} (j:Nat) (H:St S w0 LL w) (hq:LL[q]?=some (.row 189 33 v n xs)) (hj:j<n) (h1:∀ u∈xs,u.oneCell'=true) :
 Calls Tryz.prog 118 #[v,.int .i64 j,.int .i64 ((j:Int)+1)] w fun e w'=>∃ v',e=.returned v'∧St S w0 (LL.set q (.row 189 33 v' (n-1) (xs.take (j*33)++xs.drop ((j+1)*33)))) w':=by
 obtain ⟨hlen,hrow⟩:=H.get hq
 rcases hrow with ⟨rfl,rfl⟩ | ⟨b,cap,more,rfl,hnc,hcm,hcl,hblk⟩
 ·omega
 have hlt:q<LL.length:=(List.getElem?_eq_some_iff.1 hq).1
 have H1:=H.as hq (r':=.blk b 189 (xs++more)) hblk rfl
 have hq1:(LL.set q (.blk b 189 (xs++more)))[q]?=some (.blk b 189 (xs++more)):=by simp [hlt]
 obtain ⟨m,hm⟩:∃ m,n=j+1+m:=⟨n-(j+1),by omega⟩
 subst hm
 have hlen':=Lib.hid hlen
 have hcl':=Lib.hid hcl
 have hone:=Lib.hid h1
 have hq1':=Lib.hid hq1
 clear hlen hcl h1 hq1 hblk hq H
 have hne:((j:Int)==(j:Int)+1)=false:=by rw [beq_eq_false_iff_ne];omega
 obtain ⟨o,ho⟩:∃ o,o=if cap=j+1 then 0 else (j+1)*33:=⟨_,rfl⟩
 have ho':=Lib.hid ho
 clear ho
 obtain ⟨news,hnews⟩:∃ news,news=((xs++more).drop o).take (m*33):=⟨_,rfl⟩
 have hnews2:Hid (news=xs.drop ((j+1)*33)):=by
  show _=_
  have h2:=hlen'.out
  have h3:=hcl'.out
  by_cases hc:cap=j+1
  ·have:m=0:=by omega
   subst this
   have h6:xs.drop ((j+1)*33)=[]:=List.drop_eq_nil_of_le (by rw [h2];omega)
   rw [hnews,h6]
   simp
  ·rw [hnews,ho'.out,if_neg hc,List.drop_append_of_le_length (by rw [h2];omega),List.take_append_of_le_length (by rw [List.length_drop,h2];omega),List.take_of_length_le (by rw [List.length_drop,h2];omega)]
 have hnews1:=Lib.hid hnews
 clear hnews
 go_enter F118,Tryz.ntmps118
 go_wp2_with (with_reducible refine stop_slice ?_)
 refine wpl_want rfl (opw_slice3 (l:=j) (h:=j+1) (m:=j+1+m) U168 ofSize rfl rfl rfl rfl (by omega) (by omega) hnc (fun B=>?_))
 go_wp2_with (with_reducible refine stop_box ?_)
 refine wp_region_chain (n:=33) [6] (fun s v w'=>DlC S w0 LL q b (xs++more) (splice (xs++more) (j*33) news) s w') (regF [fun v _=>v=.slice (some ⟨b,0,none⟩) (j+1+m) cap,fun v _=>v=.int .i64 j,fun v _=>v=.slice (some ⟨b,0,none⟩) j cap,fun v _=>v=.slice (some ⟨b,0,none⟩) (j+1+m) cap,fun v _=>v=.int .i64 ((j:Int)+1),fun v _=>v=.slice (some ⟨b,o,none⟩) (j+1+m-(j+1)) (cap-(j+1)),fun v _=>v=.slice (some ⟨b,0,none⟩) (j+m) cap,fun v _=>v=.slice (some ⟨b,0,none⟩) (j+m) cap]) [[],[],[(20,0),(21,1)],[],[],[(23,3),(24,4)],[(22,2),(25,5)],[(26,6),(20,0),(21,1),(22,2),(23,3),(24,4),(25,5)]] [(20,0),(21,1),(22,2),(23,3),(24,4),(25,5),(26,6),(0,7)] (by kernel_rfl) (by kernel_rfl) rfl H1.drew ⟨?_,?_,?_,?_,?_,?_,?_,?_,trivial⟩ ?_
 ·intro s9 v9 vx w9 hs hv9 hC hF
  clear hF
  refine ⟨trivial,?_⟩
  simp only [putsOf]
  exact opw_val (v:=.slice (some ⟨b,0,none⟩) (j+1+m) cap) (w':=w9) (by go_simp<;>(simp only [IntKind.wrap_u64,IntKind.wrap_i64]<;>omega)) ⟨_,rfl,by simp,(by rw [if_neg (by decide)];exact hC),(fun _ _ h=>h),rfl⟩
 ·intro s9 v9 vx w9 hs hv9 hC hF
  clear hF
  refine ⟨trivial,?_⟩
  simp only [putsOf]
  exact opw_val (v:=.int .i64 j) (w':=w9) (by go_simp<;>(simp only [IntKind.wrap_u64,IntKind.wrap_i64]<;>omega)) ⟨_,rfl,by simp,(by rw [if_neg (by decide)];exact hC),(fun _ _ h=>h),rfl⟩
 ·intro s9 v9 vx w9 hs hv9 hC hF
  have q0:(vx 0)=.slice (some ⟨b,0,none⟩) (j+1+m) cap:=hF (20,0) (by simp)
  have q1:(vx 1)=.int .i64 j:=hF (21,1) (by simp)
  clear hF
  refine ⟨trivial,?_⟩
  simp only [putsOf,q0,q1]
  exact opw_sliceAt 0 j U168 ofSize rfl (.inl ⟨rfl,rfl⟩) (.inr ⟨.i64,_,rfl,rfl⟩) (by omega) (by omega) 0 (by split<;>omega) ⟨_,rfl,by simp,(by rw [if_neg (by decide)];exact hC),(fun _ _ h=>h),rfl⟩
 ·intro s9 v9 vx w9 hs hv9 hC hF
  clear hF
  refine ⟨trivial,?_⟩
  simp only [putsOf]
  exact opw_val (v:=.slice (some ⟨b,0,none⟩) (j+1+m) cap) (w':=w9) (by go_simp<;>(simp only [IntKind.wrap_u64,IntKind.wrap_i64]<;>omega)) ⟨_,rfl,by simp,(by rw [if_neg (by decide)];exact hC),(fun _ _ h=>h),rfl⟩
 ·intro s9 v9 vx w9 hs hv9 hC hF
  clear hF
  refine ⟨trivial,?_⟩
  simp only [putsOf]
  exact opw_val (v:=.int .i64 ((j:Int)+1)) (w':=w9) (by go_simp<;>(simp only [IntKind.wrap_u64,IntKind.wrap_i64]<;>omega)) ⟨_,rfl,by simp,(by rw [if_neg (by decide)];exact hC),(fun _ _ h=>h),rfl⟩
 ·intro s9 v9 vx w9 hs hv9 hC hF
  have q3:(vx 3)=.slice (some ⟨b,0,none⟩) (j+1+m) cap:=hF (23,3) (by simp)
  have q4:(vx 4)=.int .i64 ((j:Int)+1):=hF (24,4) (by simp)
  clear hF
  refine ⟨trivial,?_⟩
  simp only [putsOf,q3,q4]
  exact opw_sliceAt (j+1) (j+1+m) U168 ofSize rfl (.inr ⟨.i64,_,rfl,rfl⟩) (.inl ⟨rfl,rfl⟩) (by omega) (by omega) o ho'.out ⟨_,rfl,by simp,(by rw [if_neg (by decide)];exact hC),(fun _ _ h=>h),rfl⟩
 ·intro s9 v9 vx w9 hs hv9 hC hF
  have q2:(vx 2)=.slice (some ⟨b,0,none⟩) j cap:=hF (22,2) (by simp)
  have q5:(vx 5)=.slice (some ⟨b,o,none⟩) (j+1+m-(j+1)) (cap-(j+1)):=hF (25,5) (by simp)
  clear hF
  obtain rfl:s9=0:=by have h9:=hs (by decide);rcases s9 with _ | _ | _ | _ | s9<;>simp at h9<;>rfl
  refine ⟨trivial,?_⟩
  simp only [putsOf,q2,q5]
  have H9:St S w0 (LL.set q (.blk b 189 (xs++more))) w9:=hC
  have hs9:SlAt w9 (some ⟨b,o,none⟩) news:=by rw [hnews1.out];exact ((H9.blk hq1'.out).sl o).take _
  have h2:=hlen'.out
  have h3:=hcl'.out
  have h5:news.length=m*33:=by rw [hnews2.out,List.length_drop,h2];omega
  rw [show j+1+m-(j+1)=m by omega]
  refine opw_appendIn (k:=q) (n:=j) (m:=m) H9 hq1'.out U168 U168 ofSize rfl rfl hs9 h5 (fun u hu=>hone.out u (by rw [hnews2.out] at hu;exact List.mem_of_mem_drop hu)) (by omega) (by rw [h3];omega)<|fun w4 H4=>?_
  rw [List.set_set] at H4
  exact ⟨_,rfl,by simp,(by rw [if_pos (by decide)];exact H4),(fun _ _ h=>regF_const (by simp [allConst,Const.eq,Const.true]) h),rfl⟩
 ·intro s9 v9 vx w9 hs hv9 hC hF
  have q6:(vx 6)=.slice (some ⟨b,0,none⟩) (j+m) cap:=hF (26,6) (by simp)
  have q0:(vx 0)=.slice (some ⟨b,0,none⟩) (j+1+m) cap:=hF (20,0) (by simp)
  have q1:(vx 1)=.int .i64 j:=hF (21,1) (by simp)
  have q2:(vx 2)=.slice (some ⟨b,0,none⟩) j cap:=hF (22,2) (by simp)
  have q3:(vx 3)=.slice (some ⟨b,0,none⟩) (j+1+m) cap:=hF (23,3) (by simp)
  have q4:(vx 4)=.int .i64 ((j:Int)+1):=hF (24,4) (by simp)
  have q5:(vx 5)=.slice (some ⟨b,o,none⟩) (j+1+m-(j+1)) (cap-(j+1)):=hF (25,5) (by simp)
  clear hF
  refine ⟨trivial,?_⟩
  simp only [putsOf,q6,q0,q1,q2,q3,q4,q5]
  exact opw_val (v:=.slice (some ⟨b,0,none⟩) (j+m) cap) (w':=w9) (by go_simp<;>(simp only [IntKind.wrap_u64,IntKind.wrap_i64]<;>omega)) ⟨_,rfl,by simp,(by rw [if_neg (by decide)];exact hC),(fun _ _ h=>h),rfl⟩
 intro vx w9 hC hF
 have q0:(vx 0)=.slice (some ⟨b,0,none⟩) (j+1+m) cap:=hF 0 (by simp)
 have q1:(vx 1)=.int .i64 j:=hF 1 (by simp)
 have q2:(vx 2)=.slice (some ⟨b,0,none⟩) j cap:=hF 2 (by simp)
 have q3:(vx 3)=.slice (some ⟨b,0,none⟩) (j+1+m) cap:=hF 3 (by simp)
 have q4:(vx 4)=.int .i64 ((j:Int)+1):=hF 4 (by simp)
 have q5:(vx 5)=.slice (some ⟨b,o,none⟩) (j+1+m-(j+1)) (cap-(j+1)):=hF 5 (by simp)
 have q6:(vx 6)=.slice (some ⟨b,0,none⟩) (j+m) cap:=hF 6 (by simp)
 have q7:(vx 7)=.slice (some ⟨b,0,none⟩) (j+m) cap:=hF 7 (by simp)
 clear hF
 simp only [putsOf,q0,q1,q2,q3,q4,q5,q6,q7]
 simp only [Act.put,List.setIfInBounds_toArray,List.set_cons_succ,List.set_cons_zero]
 clear q0 q1 q2 q3 q4 q5 q6 q7
 have H2:St S w0 (LL.set q (.blk b 189 (splice (xs++more) (j*33) news))) w9:=hC
 clear hC
 go_wp2_with (with_reducible refine stop_slice ?_)
 have h2:=hlen'.out
 have h3:=hcl'.out
 have h5:news.length=m*33:=by rw [hnews2.out,List.length_drop,h2];omega
 have hsl:(splice (xs++more) (j*33) news).length=cap*33:=by simp only [splice,List.length_append,List.length_take,List.length_drop] at h3 ⊢;omega
 have hsl':=Lib.hid hsl
 have h5':=Lib.hid h5
 clear hsl h2 h3 h5
 have hset:∀ r:Res,(LL.set q r)[q]?=some r:=fun r=>by simp [hlt]
 have hset':=Lib.hid hset
 clear hset
 refine wpl_want rfl (opw_sliceAt (j+m) (j+1+m) U168 ofSize rfl (.inr ⟨.i64,_,rfl,rfl⟩) (.inr ⟨.i64,_,rfl,rfl⟩) (by omega) (by omega) ((j+m)*33) (by rw [if_neg (by omega)]) ?_)
 rw [show j+1+m-(j+m)=1 by omega]
 go_wp2_with (with_reducible refine stop_clear ?_)
 refine wpl_want rfl (opw_clear (n:=1) (k:=q) (off:=(j+m)*33) H2 (hset'.out _) U168 ofZero rfl rfl (by omega) (by have:=hsl'.out;omega) (List.all_eq_true.1 (by kernel_rfl)) ?_)
 intro w3 H3
 rw [List.set_set] at H3
 go_wp2_with (with_reducible refine stop_box ?_)
 go_ret
 have h2:=hlen'.out
 have h3:=hcl'.out
 have h5:=h5'.out
 have h6:=hsl'.out
 have hz:(Builtin.zeroCells (Value.agg ((List.replicate 32 (Value.int .u8 0))++[Value.int .i64 0]).toArray).cells 1).toList.length=33:=by kernel_rfl
 obtain ⟨zs,hzs⟩:∃ zs,zs=(Builtin.zeroCells (Value.agg ((List.replicate 32 (Value.int .u8 0))++[Value.int .i64 0]).toArray).cells 1).toList:=⟨_,rfl⟩
 rw [← hzs] at H3 hz
 have hgot:=H3.blk (k:=q) (hset'.out _)
 have hx:splice (splice (xs++more) (j*33) news) ((j+m)*33) zs=(xs.take (j*33)++xs.drop ((j+1)*33))++(zs++(splice (xs++more) (j*33) news).drop ((j+m)*33+33)):=by
  have e1:splice (xs++more) (j*33) news=(xs.take (j*33)++news)++(xs++more).drop (j*33+news.length):=by
   unfold splice
   rw [List.take_append_of_le_length (by omega),List.append_assoc]
  have e2:(xs.take (j*33)++news).length=(j+m)*33:=by simp;omega
  have e3:(splice (xs++more) (j*33) news).take ((j+m)*33)=xs.take (j*33)++news:=by rw [e1,List.take_left' e2]
  show List.take ((j+m)*33) (splice (xs++more) (j*33) news)++(zs++List.drop ((j+m)*33+zs.length) (splice (xs++more) (j*33) news))=_
  rw [e3,hz,hnews2.out]
 rw [hx] at hgot
 refine ⟨_,rfl,?_⟩
 have H4:=H3.as (k:=q) (r':=.row 189 33 (.slice (some ⟨b,0,none⟩) (j+m) cap) (j+1+m-1) (xs.take (j*33)++xs.drop ((j+1)*33))) (hset'.out _) ?_ rfl
 ·rwa [List.set_set] at H4
 ·rw [show j+1+m-1=j+m by omega]
  refine ⟨by simp;omega,.inr ⟨b,cap,_,rfl,by omega,hcm,?_,hgot⟩⟩
  rw [← hx]
  simp only [splice,List.length_append,List.length_take,List.length_drop] at h6 ⊢
  omega
def Sk (b m:Nat) (o:Obj) (v:Value) (L:List Ent):List Res :=
 [.blk b 170 [.map (some m),v],.obj m o,.row 189 33 v L.length (ordC L)]
theorem mapE_keyed {L:List Ent} (hG:GoodL L):∀ p∈mapE L,∃ l,keyOf Tryz.prog 189 p.1=some l:=by
 intro p hp
 obtain ⟨e,he,rfl⟩:=List.mem_map.1 hp
 exact flatOf.key _ (fits_kc (hG.ok e he).p (hG.ok e he).n)
theorem mapE_at {L:List Ent} (hG:GoodL L) {j i:Nat} {e:Ent} {v:Value} (hj:L[j]?=some e) (hi:(mapE L)[i]?=some (.agg e.kc.toArray,v)):i=j∧v=.agg (bys e.k).toArray:=by
 simp only [mapE,List.getElem?_map] at hi
 cases hx:L[i]? with
 | none=>rw [hx] at hi;simp at hi
 | some x =>
  rw [hx] at hi
  simp only [Option.map_some,Option.some.injEq,Prod.mk.injEq,Value.agg.injEq] at hi
  have h1:x.kc=e.kc:=by simpa using hi.1
  have h2:x.key=e.key:=kc_inj h1
  have h3:(L.map Ent.key)[i]?=some e.key:=by rw [List.getElem?_map,hx,← h2];rfl
  have h4:(L.map Ent.key)[j]?=some e.key:=by rw [List.getElem?_map,hj];rfl
  have hil:i<(L.map Ent.key).length:=(List.getElem?_eq_some_iff.1 h3).1
  have:i=j:=(List.getElem?_inj hil hG.keys).1 (h3.trans h4.symm)
  subst this
  rw [hj] at hx
  obtain rfl:=Option.some.inj hx
  exact ⟨rfl,hi.2.symm⟩
theorem ordC_one {L:List Ent}:∀ u∈ordC L,u.oneCell'=true:=by
 intro u hu
 simp only [ordC,List.mem_flatten,List.mem_map] at hu
 obtain ⟨c,⟨e,he,rfl⟩,hu⟩:=hu
 simp only [Ent.kc,kc,bys,List.mem_append,List.mem_map,List.mem_singleton] at hu
 rcases hu with ⟨x,_,rfl⟩ | rfl<;>rfl
def DrC (S:List Nat) (w0:World) (b m b3:Nat) (o:Obj) (v:Value) (L:List Ent) (R:List Res) (j:Nat) (kc:List Value) (s:Nat) (w':World):Prop :=
 match s with
 | 0=>St S w0 (Sk b m o v L++R++[.blk b3 189 kc]) w'
 | _=>∃ o',MapOf o' (mapE (L.eraseIdx j))∧St S w0 (Sk b m o' v L++R++[.blk b3 189 kc]) w'
theorem last_at (X:List Res) (r:Res):(X++[r])[X.length]?=some r:=by simp
theorem DrC.st {S:List Nat} {w0:World} {b m b3:Nat} {o:Obj} {v:Value} {L:List Ent} {R:List Res} {j:Nat} {kc:List Value} {s:Nat} {w':World} (h:DrC S w0 b m b3 o v L R j kc s w') :
 ∃ o',St S w0 (Sk b m o' v L++R++[.blk b3 189 kc]) w':=by
 match s,h with
 | 0,h=>exact ⟨o,h⟩
 | s+1,h=>obtain ⟨o',_,h⟩:=h;exact ⟨o',h⟩
theorem drop_calls {S:List Nat} {w0 w:World} {b m:Nat} {o:Obj} {v:Value} {L:List Ent} {R:List Res} (j:Nat) (e:Ent) (H:St S w0 (Sk b m o v L++R) w) (hE:MapOf o (mapE L)) (hG:GoodL L) (hj:L[j]?=some e) (hn:L.length≤1000000) :
 Calls Tryz.prog 108 #[.pointer (some ⟨b,0,none⟩),.agg e.kc.toArray] w fun r w'=>r=.returned (.tuple #[])∧∃ o' v',MapOf o' (mapE (L.eraseIdx j))∧St S w0 (Sk b m o' v' (L.eraseIdx j)++R) w':=by
 have hG':=Lib.hid hG
 have hE':=Lib.hid hE
 have hj':=Lib.hid hj
 have hjl:j<L.length:=(List.getElem?_eq_some_iff.1 hj).1
 have hem:Hid (e∈L):=List.mem_of_getElem? hj
 have hkl:Hid (e.kc.length=33):=kc_length (hG.ok e hem).p
 obtain ⟨A,c,rfl,hc,hcm,hA⟩:=(H.get (k:=2) rfl).slice
 clear hG hE hj
 go_enter F108,Tryz.ntmps108
 go_wp2_with (with_reducible refine stop_box ?_)
 refine wpl_want rfl (opw_box (c:=e.kc) H rfl ?_)
 intro w1 b3 H1
 go_wp2_with (with_reducible refine stop_box ?_)
 refine wp_region_chain (n:=27) [5] (fun s v w'=>DrC S w0 b m b3 o (.slice A L.length c) L R j e.kc s w') (regF [fun v _=>v=.pointer (some ⟨b,0,none⟩),fun v _=>v=.pointer (some ⟨b,0,none⟩),fun v _=>v=.pointer (some ⟨b,0,none⟩),fun v _=>v=.map (some m),fun v _=>v=.agg e.kc.toArray,fun v w'=>True]) [[],[(5,0)],[(6,1)],[(7,2)],[],[(8,3),(9,4)]] [(5,0),(6,1),(7,2),(8,3),(9,4)] (by kernel_rfl) (by kernel_rfl) rfl H1.drew ⟨?_,?_,?_,?_,?_,?_,trivial⟩ ?_
 ·intro s9 v9 vx w9 hs hv9 hC hF
  clear hF
  refine ⟨trivial,?_⟩
  simp only [putsOf]
  exact opw_val (v:=.pointer (some ⟨b,0,none⟩)) (w':=w9) (by go_simp<;>(simp only [IntKind.wrap_u64,IntKind.wrap_i64]<;>omega)) ⟨_,rfl,by simp,(by rw [if_neg (by decide)];exact hC),(fun _ _ h=>h),rfl⟩
 ·intro s9 v9 vx w9 hs hv9 hC hF
  have q0:(vx 0)=.pointer (some ⟨b,0,none⟩):=hF (5,0) (by simp)
  clear hF
  refine ⟨trivial,?_⟩
  simp only [putsOf,q0]
  exact opw_val (v:=.pointer (some ⟨b,0,none⟩)) (w':=w9) (by go_simp<;>(simp only [IntKind.wrap_u64,IntKind.wrap_i64]<;>omega)) ⟨_,rfl,by simp,(by rw [if_neg (by decide)];exact hC),(fun _ _ h=>h),rfl⟩
 ·intro s9 v9 vx w9 hs hv9 hC hF
  have q1:(vx 1)=.pointer (some ⟨b,0,none⟩):=hF (6,1) (by simp)
  clear hF
  refine ⟨trivial,?_⟩
  simp only [putsOf,q1]
  exact opw_val (v:=.pointer (some ⟨b,0,none⟩)) (w':=w9) (by go_simp<;>(simp only [IntKind.wrap_u64,IntKind.wrap_i64]<;>omega)) ⟨_,rfl,by simp,(by rw [if_neg (by decide)];exact hC),(fun _ _ h=>h),rfl⟩
 ·intro s9 v9 vx w9 hs hv9 hC hF
  have q2:(vx 2)=.pointer (some ⟨b,0,none⟩):=hF (7,2) (by simp)
  clear hF
  refine ⟨trivial,?_⟩
  simp only [putsOf,q2]
  obtain ⟨o9,H9⟩:=hC.st
  exact opw_load U167 rfl rfl (H9.cell (k:=0) rfl 0) ⟨_,rfl,by simp,(by rw [if_neg (by decide)];exact hC),(fun _ _ h=>h),rfl⟩
 ·intro s9 v9 vx w9 hs hv9 hC hF
  clear hF
  refine ⟨trivial,?_⟩
  simp only [putsOf]
  obtain ⟨o9,H9⟩:=hC.st
  exact opw_loads (c:=e.kc) U189 rfl (by rw [ofSize,hkl.out]) rfl (Blk.sl0 (H9.blk (last_at _ _))) ⟨_,rfl,by simp,(by rw [if_neg (by decide)];exact hC),(fun _ _ h=>h),rfl⟩
 ·intro s9 v9 vx w9 hs hv9 hC hF
  have q3:(vx 3)=.map (some m):=hF (8,3) (by simp)
  have q4:(vx 4)=.agg e.kc.toArray:=hF (9,4) (by simp)
  clear hF
  obtain rfl:s9=0:=by have h9:=hs (by decide);rcases s9 with _ | _ | _ | _ | s9<;>simp at h9<;>rfl
  refine ⟨trivial,?_⟩
  simp only [putsOf,q3,q4]
  have H9:St S w0 (Sk b m o (.slice A L.length c) L++R++[.blk b3 189 e.kc]) w9:=hC
  obtain ⟨l9,hl9⟩:=flatOf.key e.kc (fits_kc (hG'.out.ok e hem.out).p (hG'.out.ok e hem.out).n)
  refine opw_delete (k:=1) flatOf.law U167 H9 rfl hE'.out rfl rfl hl9 (mapE_keyed hG'.out) ?_ ?_
  ·intro hno
   exact absurd rfl (hno (.agg e.kc.toArray,.agg (bys e.k).toArray) (List.mem_map.2 ⟨e,hem.out,rfl⟩))
  ·intro i v9 w2 o2 hi hE2 H2
   obtain ⟨rfl,_⟩:=mapE_at hG'.out hj'.out hi
   exact ⟨undef,rfl,fun _=>rfl,(by rw [if_pos (by decide)];exact ⟨o2,by rw [mapE_erase];exact hE2,H2⟩),(fun _ _ h=>regF_const (by simp [allConst,Const.eq,Const.true]) h),trivial⟩
 intro vx w9 hC hF
 have q0:(vx 0)=.pointer (some ⟨b,0,none⟩):=hF 0 (by simp)
 have q1:(vx 1)=.pointer (some ⟨b,0,none⟩):=hF 1 (by simp)
 have q2:(vx 2)=.pointer (some ⟨b,0,none⟩):=hF 2 (by simp)
 have q3:(vx 3)=.map (some m):=hF 3 (by simp)
 have q4:(vx 4)=.agg e.kc.toArray:=hF 4 (by simp)
 clear hF
 simp only [putsOf,q0,q1,q2,q3,q4]
 simp only [Act.put,List.setIfInBounds_toArray,List.set_cons_succ,List.set_cons_zero]
 clear q0 q1 q2 q3 q4
 obtain ⟨o2,hE2,H2⟩:∃ o',MapOf o' (mapE (L.eraseIdx j))∧St S w0 (Sk b m o' (.slice A L.length c) L++R++[Res.blk b3 189 e.kc]) w9:=hC
 have hE2':=Lib.hid hE2
 clear hE2 H1
 go_wp2_with (with_reducible refine stop_box ?_)
 refine wp_region_all (n:=27) (fun w'=>St S w0 (Sk b m o2 (.slice A L.length c) L++R++[.blk b3 189 e.kc]) w') (regF [fun v _=>v=.pointer (some ⟨b,0,none⟩),fun v _=>v=.pointer (some ⟨b,0,none⟩),fun v _=>v=.pointer (some ⟨b,1,none⟩),fun v _=>v=.slice A L.length c,fun v _=>v=.agg e.kc.toArray,fun v _=>v=.int .i64 j,fun v _=>v=.int .i64 j]) [[],[(10,0)],[(11,1)],[(12,2)],[],[(13,3),(14,4)],[(15,5),(10,0),(11,1),(12,2),(13,3),(14,4)]] [(10,0),(11,1),(12,2),(13,3),(14,4),(15,5),(4,6)] (by kernel_rfl) (by kernel_rfl) rfl H2.drew (regF_stable ⟨Stable.eq _,Stable.eq _,Stable.eq _,Stable.eq _,Stable.eq _,Stable.eq _,Stable.eq _,trivial⟩) ⟨?_,?_,?_,?_,?_,?_,?_,trivial⟩ ?_
 ·intro vx w9 hC hF
  clear hF
  refine .inl ⟨trivial,?_⟩
  simp only [putsOf]
  exact opw_val (v:=.pointer (some ⟨b,0,none⟩)) (w':=w9) (by go_simp<;>(simp only [IntKind.wrap_u64,IntKind.wrap_i64]<;>omega)) ⟨_,rfl,by simp,hC,(Kept.refl _ _),rfl⟩
 ·intro vx w9 hC hF
  have q0:(vx 0)=.pointer (some ⟨b,0,none⟩):=hF (10,0) (by simp)
  clear hF
  refine .inl ⟨trivial,?_⟩
  simp only [putsOf,q0]
  exact opw_val (v:=.pointer (some ⟨b,0,none⟩)) (w':=w9) (by go_simp<;>(simp only [IntKind.wrap_u64,IntKind.wrap_i64]<;>omega)) ⟨_,rfl,by simp,hC,(Kept.refl _ _),rfl⟩
 ·intro vx w9 hC hF
  have q1:(vx 1)=.pointer (some ⟨b,0,none⟩):=hF (11,1) (by simp)
  clear hF
  refine .inl ⟨trivial,?_⟩
  simp only [putsOf,q1]
  exact opw_val (v:=.pointer (some ⟨b,1,none⟩)) (w':=w9) (by go_simp<;>(simp only [IntKind.wrap_u64,IntKind.wrap_i64]<;>omega)) ⟨_,rfl,by simp,hC,(Kept.refl _ _),rfl⟩
 ·intro vx w9 hC hF
  have q2:(vx 2)=.pointer (some ⟨b,1,none⟩):=hF (12,2) (by simp)
  clear hF
  refine .inl ⟨trivial,?_⟩
  simp only [putsOf,q2]
  exact opw_load U168 rfl rfl (hC.cell (k:=0) rfl 1) ⟨_,rfl,by simp,hC,Kept.refl _ _,rfl⟩
 ·intro vx w9 hC hF
  clear hF
  refine .inl ⟨trivial,?_⟩
  simp only [putsOf]
  exact opw_loads (c:=e.kc) U189 rfl (by rw [ofSize,hkl.out]) rfl (Blk.sl0 (hC.blk (last_at _ _))) ⟨_,rfl,by simp,hC,Kept.refl _ _,rfl⟩
 ·intro vx w9 hC hF
  have q3:(vx 3)=.slice A L.length c:=hF (13,3) (by simp)
  have q4:(vx 4)=.agg e.kc.toArray:=hF (14,4) (by simp)
  clear hF
  refine .inl ⟨trivial,?_⟩
  simp only [putsOf,q3,q4]
  refine opw_call [.slice A L.length c,.agg e.kc.toArray] F117 rfl (by kernel_rfl) rfl<|(index_calls L j e hj'.out hG'.out hn A c w9 (Row.sl (hC.get (k:=2) rfl)) hc).mono ?_
  rintro r w1 ⟨rfl,h1⟩
  exact ⟨_,rfl,_,rfl,by simp,hC.keep h1,h1,rfl⟩
 ·intro vx w9 hC hF
  have q5:(vx 5)=.int .i64 j:=hF (15,5) (by simp)
  have q0:(vx 0)=.pointer (some ⟨b,0,none⟩):=hF (10,0) (by simp)
  have q1:(vx 1)=.pointer (some ⟨b,0,none⟩):=hF (11,1) (by simp)
  have q2:(vx 2)=.pointer (some ⟨b,1,none⟩):=hF (12,2) (by simp)
  have q3:(vx 3)=.slice A L.length c:=hF (13,3) (by simp)
  have q4:(vx 4)=.agg e.kc.toArray:=hF (14,4) (by simp)
  clear hF
  refine .inl ⟨trivial,?_⟩
  simp only [putsOf,q5,q0,q1,q2,q3,q4]
  exact opw_val (v:=.int .i64 j) (w':=w9) (by go_simp<;>(simp only [IntKind.wrap_u64,IntKind.wrap_i64]<;>omega)) ⟨_,rfl,by simp,hC,(Kept.refl _ _),rfl⟩
 intro vx w9 hC hF
 have q0:(vx 0)=.pointer (some ⟨b,0,none⟩):=hF 0 (by simp)
 have q1:(vx 1)=.pointer (some ⟨b,0,none⟩):=hF 1 (by simp)
 have q2:(vx 2)=.pointer (some ⟨b,1,none⟩):=hF 2 (by simp)
 have q3:(vx 3)=.slice A L.length c:=hF 3 (by simp)
 have q4:(vx 4)=.agg e.kc.toArray:=hF 4 (by simp)
 have q5:(vx 5)=.int .i64 j:=hF 5 (by simp)
 have q6:(vx 6)=.int .i64 j:=hF 6 (by simp)
 clear hF
 simp only [putsOf,q0,q1,q2,q3,q4,q5,q6]
 simp only [Act.put,List.setIfInBounds_toArray,List.set_cons_succ,List.set_cons_zero]
 clear q0 q1 q2 q3 q4 q5 q6
 go_wp2_with (with_reducible refine stop_load ?_)
 refine wpl_want rfl (opw_load U168 rfl rfl (hC.cell (k:=0) rfl 1) ?_)
 go_wp2_with (with_reducible refine stop_box ?_)
 refine (delete_calls j hC (q:=2) rfl hjl ordC_one).mono ?_
 rintro r w5 ⟨v5,rfl,H5⟩
 go_wp2_with (with_reducible refine stop_store ?_)
 obtain ⟨A5,c5,rfl,_⟩:=(H5.get (k:=2) rfl).slice
 refine wpl_want rfl (opw_store1 (k:=0) (.slice A5 (L.length-1) c5) H5 rfl rfl rfl (by kernel_rfl) (by simp) rfl ?_)
 intro w6 H6
 go_wp2_with (with_reducible refine stop_box ?_)
 go_end0
 refine ⟨rfl,o2,.slice A5 (L.length-1) c5,hE2'.out,?_⟩
 have H7:St S w0 (Sk b m o2 (.slice A5 (L.length-1) c5) (L.eraseIdx j)++R++[Res.blk b3 189 e.kc]) w6:=by
  have e1:(L.eraseIdx j).length=L.length-1:=List.length_eraseIdx_of_lt hjl
  unfold Sk
  rw [e1,ordC_erase hG'.out.ok]
  exact H6
 exact H7.sub (List.sublist_append_left _ _)
end Go.Proofs.YtfpdnpppcoomnaaGreat
namespace Go.PBYtfpdnpppcoomnaaGreat
open Go Go.RowKit
section
variable {P : Program} {n : Nat} {S : List Nat} {w0 : World} {ops : Array Oper} {Q : QE} {rest : List Oper} {d : Tmp} {ty : TypeId} {pos : String} {af : Array Edge} {g : Option (Nat × Bool)} {env : Env} {L : List Res}
theorem l_update {t kt et:TypeId} {x y u:Operand} {b:Nat} {o:Obj} {E:List (Value × Value)} {kv v:Value} {l:Lit} (k:Nat) (F:WideMaps.KeyLaw P kt) (hu:P.underlying t=some (.map kt et)) (hx:evalE env x=some (.map (some b))) (hy:evalE env y=some kv) (hv:evalE env u=some v)
 (hk:L[k]?=some (.obj b o)) (hE:MapOf o E) (hkey:keyOf P kt kv=some l) (hall:∀ p∈E,∃ l,keyOf P kt p.1=some l) (hno:∀ p∈E,p.1≠kv)
 (h:∀ o',MapOf o' (E++[(kv,v)])→VL P n S w0 ops Q rest env (L.set k (.obj b o'))) :
 VL P n S w0 ops Q ({ dst:=none,op:=.mapUpdate t x y u,type:=ty,pos,after:=af,guard:=none }::rest) env L :=
 vl_run trivial fun a w hm H=>opw_update F hu H hk hE (hm.eval hx) (hm.eval hy) (hm.eval hv) hkey hall hno fun w' o' h1 h2=>(h o' h1).run _ w' hm h2
theorem l_makeMap {t:TypeId} (hd:dstOk n (some d)=true) (h:∀ b o,MapOf o []→VL P n S w0 ops Q rest ((d,.map (some b))::env) (.obj b o::L)) :
 VL P n S w0 ops Q ({ dst:=some d,op:=.makeMap t none,type:=ty,pos,after:=af,guard:=none }::rest) env L :=
 vl_run trivial fun a w hm H=>opw_makeMap H fun w' b o h1 h2=>(h b o h1).run _ w' (hm.put hd _) (h2.perm List.perm_append_comm)
end
end Go.PBYtfpdnpppcoomnaaGreat
namespace Go.Proofs.YtfpdnpppcoomnaaGreat
open Go.RowKit Go.PBYtfpdnpppcoomnaaGreat
def zKey:List UInt8:=List.replicate 32 0
theorem keyInfo:(Tryz.prog.info? 33).map (·.zero)=some (some (.agg (bys zKey).toArray)):=by kernel_rfl
theorem kc_one (x:List UInt8 × Int):∀ u∈kc x,u.oneCell'=true:=by
 intro u hu
 simp only [kc,List.mem_append,List.mem_singleton] at hu
 rcases hu with hu | rfl
 ·exact bys_one _ u hu
 ·rfl
def askR (L:List Ent) (x:List UInt8 × Int):List UInt8 × Bool :=
 match L.find? (fun e=>decide (e.key=x)) with
 | some e=>(e.k,true)
 | none=>(zKey,false)
theorem askR_at {L:List Ent} (hG:GoodL L) {j:Nat} {e:Ent} (hj:L[j]?=some e):askR L e.key=(e.k,true):=by
 unfold askR
 cases hf:L.find? (fun x=>decide (x.key=e.key)) with
 | none =>
  have:=List.find?_eq_none.1 hf e (List.mem_of_getElem? hj)
  simp at this
 | some x =>
  have h1:x.key=e.key:=by simpa using List.find?_some hf
  have hx:x∈L:=List.mem_of_find?_eq_some hf
  obtain ⟨i,hi⟩:=List.mem_iff_getElem?.1 hx
  have h3:(L.map Ent.key)[i]?=some e.key:=by rw [List.getElem?_map,hi,← h1];rfl
  have h4:(L.map Ent.key)[j]?=some e.key:=by rw [List.getElem?_map,hj];rfl
  have hil:i<(L.map Ent.key).length:=(List.getElem?_eq_some_iff.1 h3).1
  have:i=j:=(List.getElem?_inj hil hG.keys).1 (h3.trans h4.symm)
  subst this
  rw [hj] at hi
  obtain rfl:=Option.some.inj hi
  rfl
theorem askR_no {L:List Ent} {x:List UInt8 × Int} (h:x∉L.map Ent.key):askR L x=(zKey,false):=by
 unfold askR
 cases hf:L.find? (fun e=>decide (e.key=x)) with
 | none=>rfl
 | some e =>
  have h1:e.key=x:=by simpa using List.find?_some hf
  exact absurd (List.mem_map.2 ⟨e,List.mem_of_find?_eq_some hf,h1⟩) h
theorem opw_ask {S:List Nat} {w0 w:World} {LL:List Res} {Q:Exit→Act→World→Prop} {a:Act} {dst:Option Tmp} {ty:TypeId} {pos:String} {af:Array Edge} {g:Option (Nat × Bool)} {K:Act→World→Prop} {x y:Operand} {b k:Nat} {o:Obj} {L:List Ent} (z:List UInt8 × Int)
 (H:St S w0 LL w) (hk:LL[k]?=some (.obj b o)) (hE:MapOf o (mapE L)) (hG:GoodL L) (hz1:z.1.length=32) (hz2:(Lit.int .i64 z.2).wf=true) (hx:a.eval x=.map (some b)) (hy:a.eval y=.agg (kc z).toArray)
 (h:K (a.put dst (.tuple #[.agg (bys (askR L z).1).toArray,.bool (askR L z).2])) w) :
 Oper.wp Tryz.prog { dst,op:=.lookup 167 x y true,type:=ty,pos,after:=af,guard:=g } a w K Q:=by
 obtain ⟨l,hl⟩:=flatOf.key (kc z) (fits_kc hz1 hz2)
 cases hi:Tryz.prog.info? 33 with
 | none=>have:=keyInfo;rw [hi] at this;simp at this
 | some i =>
  have hzero:i.zero=some (.agg (bys zKey).toArray):=by have:=keyInfo;rw [hi] at this;simpa using this
  have ho:w.heap[b]?=some o:=H.ok _ (List.mem_of_getElem? hk)
  refine opw_lookup2 flatOf.law U167 hi hzero ho hE hx hy hl (mapE_keyed hG) ?_ ?_
  ·intro hno
   have:z∉L.map Ent.key:=by
    intro hm
    obtain ⟨e,he,rfl⟩:=List.mem_map.1 hm
    exact hno (.agg e.kc.toArray,.agg (bys e.k).toArray) (List.mem_map.2 ⟨e,he,rfl⟩) rfl
   rw [askR_no this] at h
   exact h
  ·intro j v hj
   have hj':=hj
   simp only [mapE,List.getElem?_map] at hj'
   cases he:L[j]? with
   | none=>rw [he] at hj';simp at hj'
   | some e =>
    rw [he] at hj'
    simp only [Option.map_some,Option.some.injEq,Prod.mk.injEq,Value.agg.injEq] at hj'
    have h1:e.kc=kc z:=by simpa using hj'.1
    have h2:e.key=z:=kc_inj h1
    subst h2
    rw [askR_at hG he] at h
    rw [← hj'.2]
    exact h
theorem q_ask {n:Nat} {S:List Nat} {w0:World} {d:Tmp} {ty:TypeId} {pos:String} {af:Array Edge} {g:Option (Nat × Bool)} {env:Env} {LL:List Res} {x y:Operand} {b:Nat} {o:Obj} {L:List Ent} (k:Nat) (z:List UInt8 × Int)
 (hk:LL[k]?=some (.obj b o)) (hE:MapOf o (mapE L)) (hG:GoodL L) (hz1:z.1.length=32) (hz2:(Lit.int .i64 z.2).wf=true) (hx:evalE env x=some (.map (some b))) (hy:evalE env y=some (.agg (kc z).toArray)) :
 QT Tryz.prog n S w0 { dst:=some d,op:=.lookup 167 x y true,type:=ty,pos,after:=af,guard:=g } env LL (.val (.tuple #[.agg (bys (askR L z).1).toArray,.bool (askR L z).2])) :=
 ⟨fun a w hm H=>opw_ask z H hk hE hG hz1 hz2 (hm.eval hx) (hm.eval hy) ⟨_,rfl,fun h=>by simp at h,rfl,St.refl w⟩⟩
def SkR (b m:Nat) (o:Obj) (A:Option Addr) (c:Nat) (L:List Ent):List Res :=
 [.blk b 170 [.map (some m),.slice A L.length c],.obj m o,.row 189 33 (.slice A L.length c) L.length (ordC L)]
def SkC (S:List Nat) (w0:World) (b m:Nat) (L:List Ent) (R:List Res) (w':World):Prop:=∃ o A c,MapOf o (mapE L)∧St S w0 (SkR b m o A c L++R) w'
theorem new_calls (w:World):Calls Tryz.prog 63 #[] w fun e w'=>∃ b m,e=.returned (vP b 0)∧SkC [] w b m [] [] w':=by
 refine enter (n:=4) (R:=fun e L=>∃ b m,e=.returned (vP b 0)∧∀ w',St [] w L w'→SkC [] w b m [] [] w') [] F63 rfl rfl rfl (St.refl w) ?_ (fun e w' L' h H=>by obtain ⟨b,m,h1,h2⟩:=h;exact ⟨b,m,h1,h2 w' H⟩)
 refine VC_seq<|VC_region<|vl_v (q_assign rfl) rfl<|vl_nil<|th_n<|VC_seq<|VC_region<|l_makeMap rfl<|fun bM oM hE=>vl_v (q_build (c':=[.map (some bM),.slice none 0 0]) rfl rfl) rfl<|l_boxA rfl rfl<|fun b3=>vl_v (q_assign rfl) rfl<|vl_nil ?_
 refine th_n<|VC_ret<|⟨_,res1 rfl rfl,?_⟩
 exact ⟨_,bM,rfl,fun w' H'=>⟨oM,none,0,hE,St.addNil H' 189 33⟩⟩
end Go.Proofs.YtfpdnpppcoomnaaGreat
namespace Go.PBYtfpdnpppcoomnaaGreat
open Go Go.RowKit
theorem ordC_snoc (L:List Ent) (e:Ent):ordC (L++[e])=ordC L++e.kc:=by simp [ordC]
theorem mapE_snoc (L:List Ent) (e:Ent):mapE (L++[e])=mapE L++[(.agg e.kc.toArray,.agg (bys e.k).toArray)]:=by simp [mapE]
theorem GoodL.snoc {L:List Ent} {e:Ent} (h:GoodL L) (he:e.ok) (hn:e.key∉L.map Ent.key):GoodL (L++[e]):=by
 refine ⟨fun x hx=>?_,?_⟩
 ·rcases List.mem_append.1 hx with hx | hx
  ·exact h.ok x hx
  ·rw [List.mem_singleton.1 hx];exact he
 ·rw [List.map_append,List.nodup_append]
  refine ⟨h.keys,by simp,?_⟩
  intro a ha b hb
  simp only [List.map_cons,List.map_nil,List.mem_singleton] at hb
  subst hb
  exact fun hab=>hn (hab ▸ ha)
end Go.PBYtfpdnpppcoomnaaGreat
namespace Go.Proofs.YtfpdnpppcoomnaaGreat
open Go.RowKit Go.PBYtfpdnpppcoomnaaGreat
theorem take_yes {S:List Nat} {w0 w:World} {b m:Nat} {o:Obj} {A:Option Addr} {c:Nat} {L:List Ent} (j:Nat) (e:Ent) (H:St S w0 (SkR b m o A c L) w) (hE:MapOf o (mapE L)) (hG:GoodL L) (hj:L[j]?=some e) (hn:L.length≤1000) :
 Calls Tryz.prog 97 #[vP b 0,.agg (bys e.p).toArray,vI e.n] w fun r w'=>r=.returned (.tuple #[.agg (bys e.k).toArray,.bool true])∧SkC S w0 b m (L.eraseIdx j) [] w':=by
 have he:=hG.ok e (List.mem_of_getElem? hj)
 have lp:=he.p
 have lk:=he.k
 have lkc:e.kc.length=33:=kc_length he.p
 have okc:∀ v∈e.kc,v.oneCell'=true:=kc_one e.key
 have hask:=askR_at hG hj
 replace H:St S w0 [.blk b 170 [.map (some m),.slice A L.length c],.obj m o,.row 189 33 (.slice A L.length c) L.length (ordC L)] w:=H
 refine enter (n:=29) (R:=fun r L'=>r=.returned (.tuple #[.agg (bys e.k).toArray,.bool true])∧∀ w',St S w0 L' w'→SkC S w0 b m (L.eraseIdx j) [] w') [vP b 0,.agg (bys e.p).toArray,vI e.n] F97 rfl rfl rfl H ?_ (fun e w' L' h H=>⟨h.1,h.2 w' H⟩)
 refine VC_seq<|VC_region<|l_boxA rfl rfl<|fun b4=>l_allocA zr33 rfl<|fun b6=>vl_v (q_assign rfl) rfl<|vl_nil<|th_n<|VC_seq<|VC_region<|vl_v (q_loads 1 U33 rfl rfl rfl sz33 (by simp only [zb,zu,zw,zi,za];omega)) rfl<|vl_v (q_move rfl) rfl<|vl_v (q_buildS (tot:=33) (sizes:=[32,1]) (c':=e.kc) (by kernel_rfl) rfl rfl rfl rfl (by simp only [List.map_cons,List.map_nil,cellsL,Value.cells,bys_length,lp];rfl) (by simp only [flatV,cellsL,Value.cells,List.map_cons,List.map_nil,List.flatten_cons,List.flatten_nil,List.append_nil];rfl)) rfl ?_
 refine l_allocA zr189 rfl<|fun b8=>?_
 refine l_storeA 0 rfl rfl rfl sz189 (by omega) (by with_reducible first | exact bys_one _ | exact u32s_one _ | exact u64s_one _ | exact i64s_one _ | exact n64s_one _ | assumption) (by simp only [zs,zr,zm,za,zb,zu,zw,zi,zt,zd,zc,zn, *]<;>first | done | omega) ?_
 simp only [List.set_cons_zero,List.set_cons_succ]
 refine vl_nil<|th_n<|VC_seq<|VC_drawQ 11 6 [[],[0],[1],[2],[],[3,4],[5],[6],[6],[],[9,7,0,1,2,3,4,5,6],[8,10,0,1,2,3,4,5,6,7,9]] [[],[0],[0,1],[0,1,2],[],[0,1,2,3,4],[0,1,2,3,4,5],[0,1,2,3,4,5,6],[0,1,2,3,4,5,6],[],[0,1,2,3,4,5,6,7,9],[0,1,2,3,4,5,6,7,8,9,10]] [([],[],[],[0,1,2,3,4,5],[]),([0],[],[],[0,1,2,3,4,5],[0]),([0,1],[],[],[0,1,2,3,4,5],[0,1]),([0,1,2],[],[],[0,1,2,3,4,5],[0,1,2]),([],[],[],[0,1,2,3,4,5],[]),([0,1,2,3,4],[],[],[0,1,2,3,4,5],[0,1,2,3,4]),([0,1,2,3,4,5],[],[],[0,1,2,3,4,5],[0,1,2,3,4,5]),([0,1,2,3,4,5,6],[],[],[0,1,2,3,4,5],[0,1,2,3,4,5,6]),([0,1,2,3,4,5,6],[],[],[0,1,2,3,4,5],[0,1,2,3,4,5,6]),([],[],[],[0,1,2,3,4,5],[]),([0,1,2,3,4,5,6,7,9],[],[9],[0,1,2,3,4,5],[0,1,2,3,4,5,6,7])] [0,1,2,3,4,5] [0,1,2,3,4,5,6,7,8,10] rfl rfl (by kernel_rfl)<|qp_v (fun xs gs hx=>q_move rfl)<|qp_v (fun xs gs hx=>q_nilck rfl)<|qp_v (fun xs gs hx=>q_fldA fo170_0 (by decide) rfl rfl)<|qp_v (fun xs gs hx=>q_load 3 U167 rfl rfl rfl rfl)<|qp_v (fun xs gs hx=>q_loads 0 U189 rfl rfl rfl sz189 (by omega))<|qp_v (fun xs gs hx=>q_as (v:=.tuple #[.agg (bys e.k).toArray,.bool true]) (q_ask 4 e.key rfl hE hG he.p he.n rfl rfl) (by rw [hask]))<|qp_v (fun xs gs hx=>q_move rfl)<|qp_v (fun xs gs hx=>q_ext rfl rfl) ?_
 refine qp_v (fun xs gs hx=>q_ext rfl rfl)<|qp_a (fun xs gs hx=>q_alloc zr33 rfl) ?_
 refine qp_storeN (fun xs gs hx=>rfl) (fun xs gs hx=>hx.1 rfl) (fun xs gs hx=>rfl) (fun xs gs hx=>List.append_nil _) sz33 (fun xs gs hx=>by first | omega | with_reducible assumption | (simp only [zb,zu,zw,zi,za];omega) | (simp only [zs,zr,zm,za,zb,zu,zw,zi,zt,zd,zc,zn, *]<;>first | done | omega) | rfl) (fun xs gs hx=>by first | (with_reducible first | exact bys_one _ | exact u32s_one _ | exact u64s_one _ | exact i64s_one _ | exact n64s_one _ | assumption) | exact bys_one _ | exact u32s_one _ | exact u64s_one _ | exact i64s_one _ | exact one_all rfl | (refine app_one ?_ ?_<;>first | exact bys_one _ | exact one_all rfl | (simp;done))) (fun xs gs hx=>by first | omega | with_reducible assumption | (simp only [zb,zu,zw,zi,za];omega) | (simp only [zs,zr,zm,za,zb,zu,zw,zi,zt,zd,zc,zn, *]<;>first | done | omega) | rfl) ?_
 refine qp_end<|fun xs gs hx=>?_
 obtain ⟨⟨b9,e9⟩,_,_⟩:=hx
 simp only [selI,ownsA,List.contains_cons,List.contains_nil,Nat.reduceBEq,Nat.reduceAdd,Bool.or_false,Bool.or_true,Bool.false_or,Bool.true_or,mask,nRow,nBlk,nRowT,tupAt_0,tupAt_1,List.append_assoc,List.nil_append,List.append_nil,List.cons_append,List.singleton_append,e9]
 refine VL.keep (kp [0,1,2,4,6,7,8,22,9] rfl)<|vl_v (q_assign rfl) rfl<|vl_nil<|qn_n<|th_n<|VC_seq<|VC_seq<|VC_region<|vl_v (q_move rfl) rfl<|vl_nil<|th_n<|VC_yes (rfl)<|VC_pickL (ks:=[3,4,5,6,0,1,2]) (by decide) rfl ?_
 refine VC_region<|vl_v (q_move rfl) rfl<|vl_v (q_loads 4 U189 rfl rfl rfl sz189 (by omega)) rfl<|l_call (F:=fun v L'=>v=.tuple #[]∧∃ o' A' c',MapOf o' (mapE (L.eraseIdx j))∧L'=SkR b m o' A' c' (L.eraseIdx j)++[.blk b9 33 (bys e.k),.blk b8 189 e.kc,.blk b6 33 (bys (List.replicate 32 0)),.blk b4 33 (bys e.p)]) F108 rfl rfl rfl (fun w1 H1=>(drop_calls j e H1 hE hG hj (by omega)).mono fun r w' h=>?_) rfl ?_
 ·obtain ⟨h1,o',v',hE',h2⟩:=h
  obtain ⟨A',c',rfl,_⟩:=Row.slice (h2.get (k:=2) rfl)
  exact ⟨_,_,h1,⟨rfl,o',A',c',hE',rfl⟩,h2⟩
 rintro v L' ⟨rfl,o',A',c',hE',rfl⟩
 simp only [SkR,List.cons_append,List.nil_append]
 refine vl_nil<|th_n<|VC_seq<|VC_region<|vl_v (q_loads 3 U33 rfl rfl rfl sz33 (by simp only [zb,zu,zw,zi,za];omega)) rfl<|vl_v (q_move rfl) rfl ?_
 refine l_storeA 5 rfl rfl rfl sz33 (by simp only [zb,zu,zw,zi,za];omega) (by with_reducible first | exact bys_one _ | exact u32s_one _ | exact u64s_one _ | exact i64s_one _ | exact n64s_one _ | assumption) (by simp only [zs,zr,zm,za,zb,zu,zw,zi,zt,zd,zc,zn, *]<;>first | done | omega) ?_
 simp only [List.set_cons_zero,List.set_cons_succ]
 refine vl_v (q_assign rfl) rfl<|vl_nil<|th_n<|VC_ret ?_
 refine ⟨_,resC2 5 rfl U33 rfl rfl rfl sz33 (by simp only [zb,zu,zw,zi,za];omega) rfl,?_⟩
 exact ⟨rfl,fun w' H'=>⟨o',A',c',hE',St.pick H' (ks:=[0,1,2]) (by decide) rfl⟩⟩
theorem take_none {S:List Nat} {w0 w:World} {b m:Nat} {o:Obj} {A:Option Addr} {c:Nat} {L:List Ent} (p:List UInt8) (n:Int) (H:St S w0 (SkR b m o A c L) w) (hE:MapOf o (mapE L)) (hG:GoodL L) (lp:p.length=32) (hnw:(Lit.int .i64 n).wf=true) (hno:(p,n)∉L.map Ent.key) :
 Calls Tryz.prog 97 #[vP b 0,.agg (bys p).toArray,vI n] w fun r w'=>r=.returned (.tuple #[.agg (bys zKey).toArray,.bool false])∧SkC S w0 b m L [] w':=by
 have lkc:(kc (p,n)).length=33:=kc_length lp
 have okc:∀ v∈kc (p,n),v.oneCell'=true:=kc_one (p,n)
 have lz:zKey.length=32:=by simp [zKey]
 have hask:=askR_no hno
 replace H:St S w0 [.blk b 170 [.map (some m),.slice A L.length c],.obj m o,.row 189 33 (.slice A L.length c) L.length (ordC L)] w:=H
 refine enter (n:=29) (R:=fun r L'=>r=.returned (.tuple #[.agg (bys zKey).toArray,.bool false])∧∀ w',St S w0 L' w'→SkC S w0 b m L [] w') [vP b 0,.agg (bys p).toArray,vI n] F97 rfl rfl rfl H ?_ (fun e w' L' h H=>⟨h.1,h.2 w' H⟩)
 refine VC_seq<|VC_region<|l_boxA rfl rfl<|fun b4=>l_allocA zr33 rfl<|fun b6=>vl_v (q_assign rfl) rfl<|vl_nil<|th_n<|VC_seq<|VC_region<|vl_v (q_loads 1 U33 rfl rfl rfl sz33 (by simp only [zb,zu,zw,zi,za];omega)) rfl<|vl_v (q_move rfl) rfl<|vl_v (q_buildS (tot:=33) (sizes:=[32,1]) (c':=kc (p,n)) (by kernel_rfl) rfl rfl rfl rfl (by simp only [List.map_cons,List.map_nil,cellsL,Value.cells,bys_length,lp];rfl) (by simp only [flatV,cellsL,Value.cells,List.map_cons,List.map_nil,List.flatten_cons,List.flatten_nil,List.append_nil];rfl)) rfl ?_
 refine l_allocA zr189 rfl<|fun b8=>?_
 refine l_storeA 0 rfl rfl rfl sz189 (by omega) (by with_reducible first | exact bys_one _ | exact u32s_one _ | exact u64s_one _ | exact i64s_one _ | exact n64s_one _ | assumption) (by simp only [zs,zr,zm,za,zb,zu,zw,zi,zt,zd,zc,zn, *]<;>first | done | omega) ?_
 simp only [List.set_cons_zero,List.set_cons_succ]
 refine vl_nil<|th_n<|VC_seq<|VC_drawQ 11 6 [[],[0],[1],[2],[],[3,4],[5],[6],[6],[],[9,7,0,1,2,3,4,5,6],[8,10,0,1,2,3,4,5,6,7,9]] [[],[0],[0,1],[0,1,2],[],[0,1,2,3,4],[0,1,2,3,4,5],[0,1,2,3,4,5,6],[0,1,2,3,4,5,6],[],[0,1,2,3,4,5,6,7,9],[0,1,2,3,4,5,6,7,8,9,10]] [([],[],[],[0,1,2,3,4,5],[]),([0],[],[],[0,1,2,3,4,5],[0]),([0,1],[],[],[0,1,2,3,4,5],[0,1]),([0,1,2],[],[],[0,1,2,3,4,5],[0,1,2]),([],[],[],[0,1,2,3,4,5],[]),([0,1,2,3,4],[],[],[0,1,2,3,4,5],[0,1,2,3,4]),([0,1,2,3,4,5],[],[],[0,1,2,3,4,5],[0,1,2,3,4,5]),([0,1,2,3,4,5,6],[],[],[0,1,2,3,4,5],[0,1,2,3,4,5,6]),([0,1,2,3,4,5,6],[],[],[0,1,2,3,4,5],[0,1,2,3,4,5,6]),([],[],[],[0,1,2,3,4,5],[]),([0,1,2,3,4,5,6,7,9],[],[9],[0,1,2,3,4,5],[0,1,2,3,4,5,6,7])] [0,1,2,3,4,5] [0,1,2,3,4,5,6,7,8,10] rfl rfl (by kernel_rfl)<|qp_v (fun xs gs hx=>q_move rfl)<|qp_v (fun xs gs hx=>q_nilck rfl)<|qp_v (fun xs gs hx=>q_fldA fo170_0 (by decide) rfl rfl)<|qp_v (fun xs gs hx=>q_load 3 U167 rfl rfl rfl rfl)<|qp_v (fun xs gs hx=>q_loads 0 U189 rfl rfl rfl sz189 (by omega))<|qp_v (fun xs gs hx=>q_as (v:=.tuple #[.agg (bys zKey).toArray,.bool false]) (q_ask 4 (p,n) rfl hE hG lp hnw rfl rfl) (by rw [hask]))<|qp_v (fun xs gs hx=>q_move rfl)<|qp_v (fun xs gs hx=>q_ext rfl rfl) ?_
 refine qp_v (fun xs gs hx=>q_ext rfl rfl)<|qp_a (fun xs gs hx=>q_alloc zr33 rfl) ?_
 refine qp_storeN (fun xs gs hx=>rfl) (fun xs gs hx=>hx.1 rfl) (fun xs gs hx=>rfl) (fun xs gs hx=>List.append_nil _) sz33 (fun xs gs hx=>by first | omega | with_reducible assumption | (simp only [zb,zu,zw,zi,za];omega) | (simp only [zs,zr,zm,za,zb,zu,zw,zi,zt,zd,zc,zn, *]<;>first | done | omega) | rfl) (fun xs gs hx=>by first | (with_reducible first | exact bys_one _ | exact u32s_one _ | exact u64s_one _ | exact i64s_one _ | exact n64s_one _ | assumption) | exact bys_one _ | exact u32s_one _ | exact u64s_one _ | exact i64s_one _ | exact one_all rfl | (refine app_one ?_ ?_<;>first | exact bys_one _ | exact one_all rfl | (simp;done))) (fun xs gs hx=>by first | omega | with_reducible assumption | (simp only [zb,zu,zw,zi,za];omega) | (simp only [zs,zr,zm,za,zb,zu,zw,zi,zt,zd,zc,zn, *]<;>first | done | omega) | rfl) ?_
 refine qp_end<|fun xs gs hx=>?_
 obtain ⟨⟨b9,e9⟩,_,_⟩:=hx
 simp only [selI,ownsA,List.contains_cons,List.contains_nil,Nat.reduceBEq,Nat.reduceAdd,Bool.or_false,Bool.or_true,Bool.false_or,Bool.true_or,mask,nRow,nBlk,nRowT,tupAt_0,tupAt_1,List.append_assoc,List.nil_append,List.append_nil,List.cons_append,List.singleton_append,e9]
 refine VL.keep (kp [0,1,2,4,6,7,8,22,9] rfl)<|vl_v (q_assign rfl) rfl<|vl_nil<|qn_n<|th_n<|VC_seq<|VC_seq<|VC_region<|vl_v (q_move rfl) rfl<|vl_nil<|th_n<|VC_no (rfl)<|VC_skip ?_
 refine th_n<|VC_seq<|VC_region<|vl_v (q_loads 6 U33 rfl rfl rfl sz33 (by simp only [zb,zu,zw,zi,za];omega)) rfl<|vl_v (q_move rfl) rfl ?_
 refine l_storeA 1 rfl rfl rfl sz33 (by simp only [zb,zu,zw,zi,za];omega) (by with_reducible first | exact bys_one _ | exact u32s_one _ | exact u64s_one _ | exact i64s_one _ | exact n64s_one _ | assumption) (by simp only [zs,zr,zm,za,zb,zu,zw,zi,zt,zd,zc,zn, *]<;>first | done | omega) ?_
 simp only [List.set_cons_zero,List.set_cons_succ]
 refine vl_v (q_assign rfl) rfl<|vl_nil<|th_n<|VC_ret ?_
 refine ⟨_,resC2 1 rfl U33 rfl rfl rfl sz33 (by simp only [zb,zu,zw,zi,za];omega) rfl,?_⟩
 exact ⟨rfl,fun w' H'=>⟨o,A,c,hE,St.pick H' (ks:=[3,4,5]) (by decide) rfl⟩⟩
theorem SkR_snoc (b m:Nat) (o:Obj) (A:Option Addr) (c:Nat) (L:List Ent) (e:Ent) :
 SkR b m o A c (L++[e])=[.blk b 170 [.map (some m),.slice A (L.length+1) c],.obj m o,.row 189 33 (.slice A (L.length+1) c) (L.length+1) (ordC L++e.kc)]:=by
 unfold SkR
 rw [ordC_snoc,List.length_append]
 rfl
theorem put_new {S:List Nat} {w0 w:World} {b m:Nat} {o:Obj} {A:Option Addr} {c:Nat} {L:List Ent} (e:Ent) (lp:e.p.length=32) (lk:e.k.length=32) (hnw:(Lit.int .i64 e.n).wf=true) (H:St S w0 (SkR b m o A c L) w) (hE:MapOf o (mapE L)) (hG:GoodL L) (hneg:¬ e.n<0) (hno:e.key∉L.map Ent.key) (hl:L.length<8) :
 Calls Tryz.prog 110 #[vP b 0,.agg (bys e.p).toArray,vI e.n,.agg (bys e.k).toArray] w fun r w'=>r=.returned (.int .i64 0)∧SkC S w0 b m (L++[e]) [] w':=by
 have lkc:e.kc.length=33:=kc_length lp
 have okc:∀ v∈e.kc,v.oneCell'=true:=kc_one e.key
 have hask:=askR_no hno
 have lz:zKey.length=32:=by simp [zKey]
 have hoc:=ordC_length hG.ok
 have ooc:∀ u∈ordC L,u.oneCell'=true:=ordC_one
 have he:e.ok:=⟨lp,lk,hnw⟩
 have hG2:=hG.snoc he hno
 have hfl:([e.kc].flatten).length=1*33:=by simp [lkc]
 have hfe:[e.kc].flatten=e.kc:=by simp
 have hfo:∀ u∈[e.kc].flatten,u.oneCell'=true:=by rw [hfe];exact okc
 obtain ⟨l9,hl9⟩:=flatOf.key e.kc (fits_kc lp hnw)
 replace H:St S w0 [.blk b 170 [.map (some m),.slice A L.length c],.obj m o,.row 189 33 (.slice A L.length c) L.length (ordC L)] w:=H
 refine enter (n:=57) (R:=fun r L'=>r=.returned (.int .i64 0)∧∀ w',St S w0 L' w'→SkC S w0 b m (L++[e]) [] w') [vP b 0,.agg (bys e.p).toArray,vI e.n,.agg (bys e.k).toArray] F110 rfl rfl rfl H ?_ (fun e w' L' h H=>⟨h.1,h.2 w' H⟩)
 refine VC_seq<|VC_region<|l_boxA rfl rfl<|fun b5=>l_boxA rfl rfl<|fun b7=>vl_v (q_assign rfl) rfl<|vl_nil<|th_n<|VC_seq<|VC_region<|vl_v (q_loads 1 U33 rfl rfl rfl sz33 (by simp only [zb,zu,zw,zi,za];omega)) rfl<|vl_v (q_move rfl) rfl<|vl_v (q_buildS (tot:=33) (sizes:=[32,1]) (c':=e.kc) (by kernel_rfl) rfl rfl rfl rfl (by simp only [List.map_cons,List.map_nil,cellsL,Value.cells,bys_length,lp];rfl) (by simp only [flatV,cellsL,Value.cells,List.map_cons,List.map_nil,List.flatten_cons,List.flatten_nil,List.append_nil];rfl)) rfl ?_
 refine l_allocA zr189 rfl<|fun b9=>?_
 refine l_storeA 0 rfl rfl rfl sz189 (by omega) (by with_reducible first | exact bys_one _ | exact u32s_one _ | exact u64s_one _ | exact i64s_one _ | exact n64s_one _ | assumption) (by simp only [zs,zr,zm,za,zb,zu,zw,zi,zt,zd,zc,zn, *]<;>first | done | omega) ?_
 simp only [List.set_cons_zero,List.set_cons_succ]
 refine vl_nil<|th_n<|VC_seq<|VC_seq<|VC_region<|vl_v (q_move rfl) rfl<|vl_v (q_as (v:=.bool false) (q_lss_k (q:=0) U3 rfl rfl) (by simp;omega)) rfl<|vl_nil<|th_n<|VC_no (rfl)<|VC_skip<|th_n ?_
 refine VC_seq<|VC_seq<|VC_drawQ 11 6 [[],[0],[1],[2],[],[3,4],[5],[6],[6],[],[9,7,0,1,2,3,4,5,6],[8,10,0,1,2,3,4,5,6,7,9]] [[],[0],[0,1],[0,1,2],[],[0,1,2,3,4],[0,1,2,3,4,5],[0,1,2,3,4,5,6],[0,1,2,3,4,5,6],[],[0,1,2,3,4,5,6,7,9],[0,1,2,3,4,5,6,7,8,9,10]] [([],[],[],[0,1,2,3,4,5],[]),([0],[],[],[0,1,2,3,4,5],[0]),([0,1],[],[],[0,1,2,3,4,5],[0,1]),([0,1,2],[],[],[0,1,2,3,4,5],[0,1,2]),([],[],[],[0,1,2,3,4,5],[]),([0,1,2,3,4],[],[],[0,1,2,3,4,5],[0,1,2,3,4]),([0,1,2,3,4,5],[],[],[0,1,2,3,4,5],[0,1,2,3,4,5]),([0,1,2,3,4,5,6],[],[],[0,1,2,3,4,5],[0,1,2,3,4,5,6]),([0,1,2,3,4,5,6],[],[],[0,1,2,3,4,5],[0,1,2,3,4,5,6]),([],[],[],[0,1,2,3,4,5],[]),([0,1,2,3,4,5,6,7,9],[],[9],[0,1,2,3,4,5],[0,1,2,3,4,5,6,7])] [0,1,2,3,4,5] [0,1,2,3,4,5,6,7,8,10] rfl rfl (by kernel_rfl)<|qp_v (fun xs gs hx=>q_move rfl)<|qp_v (fun xs gs hx=>q_nilck rfl)<|qp_v (fun xs gs hx=>q_fldA fo170_0 (by decide) rfl rfl)<|qp_v (fun xs gs hx=>q_load 3 U167 rfl rfl rfl rfl)<|qp_v (fun xs gs hx=>q_loads 0 U189 rfl rfl rfl sz189 (by omega))<|qp_v (fun xs gs hx=>q_as (v:=.tuple #[.agg (bys zKey).toArray,.bool false]) (q_ask 4 e.key rfl hE hG lp hnw rfl rfl) (by rw [hask]))<|qp_v (fun xs gs hx=>q_move rfl)<|qp_v (fun xs gs hx=>q_ext rfl rfl)<|qp_v (fun xs gs hx=>q_ext rfl rfl) ?_
 refine qp_a (fun xs gs hx=>q_alloc zr33 rfl) ?_
 refine qp_storeN (fun xs gs hx=>rfl) (fun xs gs hx=>hx.1 rfl) (fun xs gs hx=>rfl) (fun xs gs hx=>List.append_nil _) sz33 (fun xs gs hx=>by first | omega | with_reducible assumption | (simp only [zb,zu,zw,zi,za];omega) | (simp only [zs,zr,zm,za,zb,zu,zw,zi,zt,zd,zc,zn, *]<;>first | done | omega) | rfl) (fun xs gs hx=>by first | (with_reducible first | exact bys_one _ | exact u32s_one _ | exact u64s_one _ | exact i64s_one _ | exact n64s_one _ | assumption) | exact bys_one _ | exact u32s_one _ | exact u64s_one _ | exact i64s_one _ | exact one_all rfl | (refine app_one ?_ ?_<;>first | exact bys_one _ | exact one_all rfl | (simp;done))) (fun xs gs hx=>by first | omega | with_reducible assumption | (simp only [zb,zu,zw,zi,za];omega) | (simp only [zs,zr,zm,za,zb,zu,zw,zi,zt,zd,zc,zn, *]<;>first | done | omega) | rfl) ?_
 refine qp_end<|fun xs gs hx=>?_
 obtain ⟨⟨b10,e10⟩,_,_⟩:=hx
 simp only [selI,ownsA,List.contains_cons,List.contains_nil,Nat.reduceBEq,Nat.reduceAdd,Bool.or_false,Bool.or_true,Bool.false_or,Bool.true_or,mask,nRow,nBlk,nRowT,tupAt_0,tupAt_1,List.append_assoc,List.nil_append,List.append_nil,List.cons_append,List.singleton_append,e10]
 refine VL.keep (kp [0,1,2,3,5,7,8,9,16,25] rfl)<|vl_v (q_assign rfl) rfl<|vl_nil<|qn_n<|th_n<|VC_seq<|VC_region<|vl_v (q_move rfl) rfl<|vl_nil<|th_n<|VC_no (rfl)<|VC_skip<|th_n ?_
 refine VC_seq<|VC_drawV 6 [[],[0],[1],[2],[],[],[3,4,5,0,1,2]] [[],[0],[0,1],[0,1,2],[],[],[0,1,2,3,4,5]] rfl (by kernel_rfl)<|qv_v (q_move rfl)<|qv_v (q_nilck rfl)<|qv_v (q_fldA fo170_0 (by decide) rfl rfl)<|qv_v (q_load 3 U167 rfl rfl rfl rfl)<|qv_v (q_loads 0 U189 rfl rfl rfl sz189 (by omega))<|qv_v (q_loads 1 U33 rfl rfl rfl sz33 (by simp only [zb,zu,zw,zi,za];omega))<|qv_end<|VL.keep (kp [0,1,2,3,5,7,8,9,16,11,26,30,31,32] rfl)<|l_update 4 flatOf.law U167 rfl rfl rfl rfl hE hl9 (mapE_keyed hG) (fun p hp hk=>by obtain ⟨x,hx,rfl⟩:=List.mem_map.1 hp;have h7:x.kc=e.kc:=(by simpa using hk);exact hno (List.mem_map.2 ⟨x,hx,kc_inj h7⟩))<|fun o2 hE2=>?_
 rw [← mapE_snoc] at hE2
 simp only [List.set_cons_zero,List.set_cons_succ]
 refine vl_nil<|qn_n<|th_n<|VC_seq<|VC_drawQ 8 7 [[],[],[1],[2],[3],[],[5],[4,6],[0,1,2,3,4,5,6,7],[8,0,1,2,3,4,5,6,7],[9,7,0,1,2,3,4,5,6]] [[],[],[1],[1,2],[1,2,3],[],[5],[1,2,3,4,5,6],[0,1,2,3,4,5,6,7],[0,1,2,3,4,5,6,7,8],[0,1,2,3,4,5,6,7,8,9]] [([],[],[],[0,1,2,3,4,6],[]),([],[],[],[0,1,2,3,4,5,6],[]),([1],[],[],[0,1,2,3,4,5,6],[1]),([1,2],[],[],[0,1,2,3,4,5,6],[1,2]),([1,2,3],[],[],[0,1,2,3,4,5,6],[1,2,3]),([],[],[],[0,1,2,3,4,5,6],[]),([5],[],[],[0,1,2,3,4,5,6],[5]),([1,2,3,4,5,6],[5],[],[0,1,2,3,4,6],[1,2,3,4,5,6])] [0,1,2,3,4,6] [0,1,2,3,4,5,6,7] rfl rfl (by kernel_rfl)<|qp_v (fun xs gs hx=>q_move rfl)<|qp_v (fun xs gs hx=>q_move rfl)<|qp_v (fun xs gs hx=>q_nilck rfl)<|qp_v (fun xs gs hx=>q_fldA fo170_1 (by decide) rfl rfl)<|qp_v (fun xs gs hx=>q_load 3 U168 rfl rfl rfl rfl)<|qp_v (fun xs gs hx=>q_loads 0 U189 rfl rfl rfl sz189 (by omega))<|qp_a (fun xs gs hx=>q_litG [e.kc] U168 in189 (by decide) (by decide) rfl rfl rfl (by intro v hv;rw [List.mem_singleton.1 hv];exact lkc)) ?_
 refine qp_append U168 U168 in189 rfl (by decide) (fun xs gs hx=>rfl) (fun xs gs hx=>rfl) (fun xs gs hx=>(let ⟨b',e'⟩:=hx.1 rfl;⟨_,_,congrArg some e',Reads.rowV 6 e' rfl⟩)) (fun xs gs hx=>by first | omega | with_reducible assumption | (simp only [zb,zu,zw,zi,za];omega) | (simp only [zs,zr,zm,za,zb,zu,zw,zi,zt,zd,zc,zn, *]<;>first | done | omega) | rfl) (fun xs gs hx=>by first | (with_reducible first | exact bys_one _ | exact u32s_one _ | exact u64s_one _ | exact i64s_one _ | exact n64s_one _ | assumption) | exact bys_one _ | exact u32s_one _ | exact u64s_one _ | exact i64s_one _ | exact one_all rfl | (refine app_one ?_ ?_<;>first | exact bys_one _ | exact one_all rfl | (simp;done))) (by omega) (by omega) ?_
 refine qp_end<|fun xs gs hx=>?_
 obtain ⟨⟨b39,e39⟩,⟨A40,c40,e40,hc40,hm40⟩,_⟩:=hx
 simp only [selI,ownsA,List.contains_cons,List.contains_nil,Nat.reduceBEq,Nat.reduceAdd,Bool.or_false,Bool.or_true,Bool.false_or,Bool.true_or,mask,nRow,nBlk,nRowT,tupAt_0,tupAt_1,List.append_assoc,List.nil_append,List.append_nil,List.cons_append,List.singleton_append,e39,e40]
 refine VL.keep (kp [0,1,2,3,5,7,8,9,16,11,26,33,40] rfl)<|vl_v (q_nilck rfl) rfl<|vl_v (q_fldA fo170_1 (by decide) rfl rfl) rfl<|l_store1 3 rfl rfl rfl sz168 rfl (by simp;done) ?_
 simp only [List.set_cons_zero,List.set_cons_succ]
 refine vl_nil<|qn_n<|th_n<|VC_seq<|VC_seq ?_
 simp only [hfe]
 refine VC_region<|vl_v (q_move rfl) rfl<|vl_v (q_nilck rfl) rfl<|vl_v (q_fldA fo170_1 (by decide) rfl rfl) rfl<|vl_v (q_load 3 U168 rfl rfl rfl rfl) rfl<|vl_v (q_lenS U168 rfl) rfl<|vl_v (q_false (q_gtr_n (q:=8) U3 rfl rfl) (by simp;omega)) rfl<|vl_nil<|th_n<|VC_no (rfl)<|VC_skip<|th_n ?_
 refine VC_seq<|VC_region<|vl_v (q_assign rfl) rfl<|vl_nil<|th_n<|VC_ret<|⟨_,res1 rfl rfl,?_⟩
 exact ⟨rfl,fun w' H'=>⟨o2,A40,c40,hE2,by rw [SkR_snoc];exact St.pick H' (ks:=[3,4,7]) (by decide) rfl⟩⟩
end Go.Proofs.YtfpdnpppcoomnaaGreat
namespace Go.PBYtfpdnpppcoomnaaGreat
open Go Go.RowKit
theorem GoodL.sub {L M:List Ent} (h:GoodL L) (hs:M.Sublist L):GoodL M:=⟨fun e he=>h.ok e (hs.subset he),(hs.map _).nodup h.keys⟩
end Go.PBYtfpdnpppcoomnaaGreat
namespace Go.Proofs.YtfpdnpppcoomnaaGreat
open Go.RowKit Go.PBYtfpdnpppcoomnaaGreat
theorem SkC.swap {S:List Nat} {w0 w w':World} {b m:Nat} {o:Obj} {A:Option Addr} {c:Nat} {L L':List Ent} {R:List Res} (H:St S w0 (SkR b m o A c L++R) w) (h:SkC (ats (SkR b m o A c L)) w b m L' [] w'):SkC S w0 b m L' R w':=by
 obtain ⟨o',A',c',h1,h2⟩:=h
 rw [List.append_nil] at h2
 exact ⟨o',A',c',h1,H.swap h2⟩
theorem zKey_length:zKey.length=32:=by simp [zKey]
end Go.Proofs.YtfpdnpppcoomnaaGreat
namespace Go.PBYtfpdnpppcoomnaaGreat
open Go Go.RowKit
section
variable {P : Program}
theorem run_eqMN {t k e:TypeId} {m:Nat} (h:P.underlying t=some (.map k e)) (w:World):(binOp .eql t (.map (some m)) (.map none)).run P w=.ok (.bool false) w:=by
 simp only [binOp]
 simp [run_equal_map_nil w t k e (some m) h]
theorem run_taM {t xT k e:TypeId} {v:Value} (h:P.underlying t=some (.map k e)) (w:World):(Instr.typeAssert (.iface t v) xT t false).run P w=.ok v w:=by
 simp [Instr.typeAssert,run_underlying h,go_sem,Result.andThen]
theorem run_mclone {r:Nat} {es:Array MapEntry} {clock:Nat} (t:TypeId) {w:World} (hb:w.heap[r]?=some (.map es clock)) :
 (Extern.MapsClone.clone #[.iface t (.map (some r))]).run P w=.ok (.iface t (.map (some w.heap.size))) (w.alloc (.map es clock)):=by
 have e:Extern.MapsClone.clone #[.iface t (.map (some r))]=(getObj r >>= fun o=>match o with
  | .map entries clock=>(newObj (.map entries clock) >>= fun n=>pure (.iface t (.map (some n))))
  | _=>stuck "maps.clone: a map expected"):=rfl
 rw [e]
 simp [MapKept.run_getObj_map hb,Result.andThen,go_sem]
end
section
variable {P : Program} {n : Nat} {S : List Nat} {w0 : World} {d : Tmp} {ty : TypeId} {pos : String} {af : Array Edge} {g : Option (Nat × Bool)} {env : Env} {L : List Res}
def nObj (o:Obj) (v:Value):List Res:=match v with | .map (some m)=>[.obj m o] | _=>[]
theorem q_callM {f:FuncId} {fn:Func} {xs:Array Operand} {ats:Array TypeId} {args:List Value} {o:Obj} (hf:P.funcs[f]?=some fn) (hb:fn.body.isSome=true) (hn:(fn.name == "runtime.NumGoroutine")=false) (hx:evalsE env xs.toList=some args)
 (hc:∀ w,St S w0 L w→Calls P f args.toArray w (fun e w'=>∃ m,e=.returned (.map (some m))∧St [] w [.obj m o] w')) :
 QT P n S w0 { dst:=some d,op:=.call { callee:=.value (.func f),args:=xs,argTypes:=ats },type:=ty,pos,after:=af,guard:=g } env L (.any (fun v=>∃ m,v=.map (some m)) (nObj o)) :=
 q_call (s:=.any (fun v=>∃ m,v=.map (some m)) (nObj o)) hf hb hn hx fun w H=>(hc w H).mono fun e w' ⟨m,h1,h2⟩=>⟨_,h1,⟨m,rfl⟩,h2⟩
theorem q_eqSN {T T' e:TypeId} {x y:Operand} {A:Option Addr} {l c:Nat} (hT:P.underlying T=some (.slice e)) (hx:evalE env x=some (.slice A l c)) (hy:evalE env y=some (.slice none 0 0)) :
 QT P n S w0 { dst:=some d,op:=.binOp .eql T x y T',type:=ty,pos,after:=af,guard:=g } env L (.val (.bool A.isNone)) :=
 q_bin hx hy fun w=>by
  have h1:=run_equal_slice_nil w T e A l c hT
  have h2:eqGuard .eql T x y (.slice A l c) (.slice none 0 0)=pure ():=rfl
  have h3:binOp .eql T (.slice A l c) (.slice none 0 0)=(do pure (.bool (← Op.equal T (.slice A l c) (.slice none 0 0)))):=by cases A<;>rfl
  rw [h2,h3]
  simp [h1]
end
end Go.PBYtfpdnpppcoomnaaGreat
namespace Go.Proofs.YtfpdnpppcoomnaaGreat
open Go.RowKit Go.PBYtfpdnpppcoomnaaGreat
theorem mclone_w (b:Nat) (es:Array MapEntry) (clock:Nat) (w:World) (hb:w.heap[b]?=some (.map es clock)) :
 Calls Tryz.prog 95 #[.map (some b)] w fun e w'=>e=.returned (.map (some w.heap.size))∧w'=w.alloc (.map es clock):=by
 have hq:=fun w=>run_eqMN (P:=Tryz.prog) (m:=b) U167 w
 go_enter F95,Tryz.ntmps95
 go_wp2
 rw [run_callFunc_extern F107 (by kernel_rfl) (by kernel_rfl) (by kernel_rfl) (e:=Extern.MapsClone.clone) (by kernel_rfl),run_mclone 167 hb]
 simp only [Result.andThen]
 rw [Oper.upon_value]
 go_wp2
 rw [run_taM U167]
 simp only [Result.andThen]
 rw [Oper.upon_value]
 go_wp2
 go_ret
 exact ⟨rfl,rfl⟩
theorem mclone_calls (b:Nat) (o:Obj) (E:List (Value × Value)) (hE:MapOf o E) (w:World) (ho:w.heap[b]?=some o) :
 Calls Tryz.prog 95 #[.map (some b)] w fun e w'=>∃ m,e=.returned (.map (some m))∧St [] w [.obj m o] w':=by
 obtain ⟨es,clock,rfl,_⟩:=hE
 refine (mclone_w b es clock w ho).mono ?_
 rintro e w' ⟨h1,rfl⟩
 exact ⟨_,h1,(St.refl w).add (World.grownBy_alloc w _ none) (heap_alloc_new w (.map es clock)) (by simp [Res.at])⟩
theorem sclone_some (L:List Ent) (A:Addr) (c:Nat) (hG:GoodL L) (hl:L.length≤1000) (w:World) (hA:SlAt w (some A) (ordC L)) :
 Calls Tryz.prog 96 #[.slice (some A) L.length c] w fun e w'=>∃ v,e=.returned v∧St [] w [.row 189 33 v L.length (ordC L)] w':=by
 have hoc:=ordC_length hG.ok
 have ooc:∀ u∈ordC L,u.oneCell'=true:=ordC_one
 refine enter (n:=8) (R:=fun e L'=>∃ v,e=.returned v∧∀ w',St [] w L' w'→St [] w [.row 189 33 v L.length (ordC L)] w') [.slice (some A) L.length c] F96 rfl rfl rfl (St.refl w) ?_ (fun e w' L' h H=>by obtain ⟨v,h1,h2⟩:=h;exact ⟨v,h1,h2 w' H⟩)
 refine VC_seq<|VC_region<|vl_v (q_assign rfl) rfl<|vl_nil<|th_n<|VC_seq<|VC_seq<|VC_region<|vl_v (q_move rfl) rfl<|vl_v (q_as (v:=.bool false) (q_eqSN U168 rfl rfl) rfl) rfl<|vl_nil<|th_n ?_
 refine VC_no (rfl)<|VC_skip<|th_n<|VC_seq<|VC_region<|l_litG [] U168 in189 (by decide) (by decide) rfl rfl rfl (by simp) rfl<|fun b5=>vl_v (q_move rfl) rfl<|l_append 0 rfl rfl rfl U168 U168 in189 rfl (by decide) (Reads.old hA) (by omega) (by with_reducible first | exact bys_one _ | exact u32s_one _ | exact u64s_one _ | exact i64s_one _ | exact n64s_one _ | assumption) (by omega) (by omega) rfl<|fun A7 c7 hc7=>?_
 simp only [List.set_cons_zero,List.set_cons_succ,← bys_append,← u32s_append,← u64s_append,← i64s_append,List.nil_append,Nat.zero_add]
 refine vl_v (q_assign rfl) rfl<|vl_nil<|th_n<|VC_ret<|⟨_,res1 rfl rfl,?_⟩
 exact ⟨_,rfl,fun w' H'=>by rw [List.flatten_nil,List.nil_append] at H';exact H'⟩
theorem sclone_calls (L:List Ent) (A:Option Addr) (c:Nat) (hG:GoodL L) (hl:L.length≤1000) (w:World) (hA:SlAt w A (ordC L)) :
 Calls Tryz.prog 96 #[.slice A L.length c] w fun e w'=>∃ v,e=.returned v∧St [] w [.row 189 33 v L.length (ordC L)] w':=by
 cases A with
 | some A=>exact sclone_some L A c hG hl w hA
 | none =>
  have hL:L=[]:=by
   cases L with
   | nil=>rfl
   | cons e r =>
    have hlen:=ordC_length hG.ok
    obtain ⟨ad,h,_⟩:=hA 0 _ (List.getElem?_eq_getElem (by rw [hlen];simp))
    cases h
  subst hL
  refine enter (n:=8) (R:=fun e L'=>e=.returned (.slice none 0 0)) [.slice none 0 c] F96 rfl rfl rfl (St.refl w) ?_ (fun e w' L' h H=>⟨_,h,((St.refl w).addNil 189 33).keep H.kept⟩)
  refine VC_seq<|VC_region<|vl_v (q_assign rfl) rfl<|vl_nil<|th_n<|VC_seq<|VC_seq<|VC_region<|vl_v (q_move rfl) rfl<|vl_v (q_as (v:=.bool true) (q_eqSN U168 rfl rfl) rfl) rfl<|vl_nil<|th_n ?_
  refine VC_yes (rfl)<|VC_seq<|VC_region<|vl_v (q_assign rfl) rfl<|vl_nil<|th_n<|VC_ret<|th_r<|⟨_,res1 rfl rfl,?_⟩
  exact rfl
theorem copy_calls (b m:Nat) (o:Obj) (A:Option Addr) (c:Nat) (L:List Ent) (hE:MapOf o (mapE L)) (hG:GoodL L) (hl:L.length≤1000) (w:World) (hS:SlAt w (some ⟨b,0,none⟩) [.map (some m),.slice A L.length c]) (ho:w.heap[m]?=some o) (hA:SlAt w A (ordC L)) :
 Calls Tryz.prog 76 #[vP b 0] w fun e w'=>∃ b' m',e=.returned (vP b' 0)∧SkC [] w b' m' L [] w':=by
 have hml:m<w.heap.size:=(Array.getElem?_eq_some_iff.1 ho).1
 refine enter (n:=15) (R:=fun e L'=>∃ b' m',e=.returned (vP b' 0)∧∀ w',St [] w L' w'→SkC [] w b' m' L [] w') [vP b 0] F76 rfl rfl rfl (St.refl w) ?_ (fun e w' L' h H=>by obtain ⟨b',m',h1,h2⟩:=h;exact ⟨b',m',h1,h2 w' H⟩)
 refine VC_seq<|VC_region<|vl_v (q_assign rfl) rfl<|vl_nil<|th_n<|VC_seq<|VC_drawM 9 [[],[0],[1],[2],[3],[],[5],[6],[7],[8,4],[4,9],[10],[11,9,0,1,2,3,4,5,6,7,8,10]] [[],[0],[0,1],[0,1,2],[0,1,2,3],[],[5],[5,6],[5,6,7],[0,1,2,3,4,5,6,7,8],[0,1,2,3,4,5,6,7,8,9],[0,1,2,3,4,5,6,7,8,9,10],[0,1,2,3,4,5,6,7,8,9,10,11]] rfl (by kernel_rfl)<|qm_v (fun xs hx=>q_move rfl)<|qm_v (fun xs hx=>q_nilck rfl)<|qm_v (fun xs hx=>q_fldA fo170_0 (by decide) rfl rfl)<|qm_v (fun xs hx=>q_loadR (ad:=⟨b,0,none⟩) (j:=0) U167 rfl rfl (Reads.old hS) rfl)<|qm_a (fun xs hx=>q_callM F95 rfl rfl rfl (fun w1 H1=>mclone_calls m o _ hE w1 (by rw [H1.kept.block m hml (by simp)];exact ho))) ?_
 refine qm_v (fun xs hx=>q_move rfl)<|qm_v (fun xs hx=>q_nilck rfl)<|qm_v (fun xs hx=>q_fldA fo170_1 (by decide) rfl rfl)<|qm_v (fun xs hx=>q_loadR (ad:=⟨b,0,none⟩) (j:=1) U168 rfl rfl (Reads.old hS) rfl)<|qm_end<|fun xs hx=>?_
 obtain ⟨f7,_⟩:=hx
 simp only [resT,nRow,nBlk,nRowT,tupAt_0,List.append_assoc,List.nil_append,List.append_nil,List.cons_append,List.singleton_append]
 obtain ⟨m7,e7⟩:=f7
 simp only [e7,nObj,List.cons_append,List.nil_append]
 refine VL.keep (kp [0,2,7,11] rfl)<|l_callR F96 rfl rfl rfl (fun w1 H1=>sclone_calls L A c hG hl w1 (Reads.old hA w1 H1)) rfl<|fun A12 c12 hc12 hm12=>vl_v (q_build (c':=[.map (some m7),.slice A12 L.length c12]) rfl rfl) rfl<|l_boxA rfl rfl<|fun b14=>vl_v (q_assign rfl) rfl<|vl_nil<|qn_n<|th_n<|VC_ret<|⟨_,res1 rfl rfl,?_⟩
 exact ⟨_,m7,rfl,fun w' H'=>⟨o,A12,c12,hE,by rw [List.append_nil];exact St.pick H' (ks:=[0,2,1]) (by decide) rfl⟩⟩
end Go.Proofs.YtfpdnpppcoomnaaGreat
namespace Go.Proofs.YtfpdnpppcoomnaaGreat
open Go Go.RowKit Go.PBYtfpdnpppcoomnaaGreat
theorem cpack_calls (k l:List UInt8) (B:Option Addr) (lb cb:Nat) (hk:k.length=32) (hlb:lb=l.length) (hl:l.length≤1000) (w:World) (hB:SlAt w B (bys l)) :
 Calls Tryz.prog 30 #[.agg (bys k).toArray,.slice B lb cb] w fun e w'=>∃ v T,e=.returned v∧St [] w [.row T 1 v (32+l.length) (bys (k++l))] w':=by
 subst hlb
 refine enter (n:=8) (R:=fun e L=>∃ v T,e=.returned v∧∀ w',St [] w L w'→St [] w [.row T 1 v (32+l.length) (bys (k++l))] w') [.agg (bys k).toArray,.slice B l.length cb] F30 rfl rfl rfl (St.refl w) ?_ (fun e w' L' h H=>by obtain ⟨v,T,h1,h2⟩:=h;exact ⟨v,T,h1,h2 w' H⟩)
 refine VC_seq<|VC_region<|l_boxA rfl rfl<|fun b2=>vl_v (q_assign rfl) rfl<|vl_nil<|th_n<|VC_seq<|VC_asRow hk (by omega)<|VC_region ?_
 refine vl_v (q_slcA U33 sz5 rfl rfl rfl rfl (.inl rfl) (by omega) (by omega) (by omega) (by omega) (by (try simp only [Nat.mul_one,Nat.zero_add,Nat.zero_mul,Nat.mul_zero,Nat.add_zero])<;>rfl)) rfl ?_
 refine vl_v (q_move rfl) rfl<|l_appendT 0 rfl rfl rfl U22 U22 in5 rfl (by decide) (Reads.old hB) (by simp only [zb,zu,zw,zi,za];omega) (by with_reducible first | exact bys_one _ | exact u32s_one _ | exact u64s_one _ | exact i64s_one _ | exact n64s_one _ | assumption) (by omega) (by omega) rfl<|fun A7 c7 T7 hc7 hm7=>?_
 simp only [List.set_cons_zero,List.set_cons_succ,← bys_append,← u32s_append,← u64s_append,← i64s_append,List.nil_append,Nat.zero_add]
 refine vl_v (q_assign rfl) rfl<|vl_nil<|th_n<|VC_ret<|⟨_,res1 rfl rfl,?_⟩
 exact ⟨_,_,rfl,fun w' H=>H⟩
theorem bclone_calls (l:List UInt8) (a:Addr) (lb cb:Nat) (hlb:lb=l.length) (hl:l.length≤1000) (w:World) (hB:SlAt w (some a) (bys l)) :
 Calls Tryz.prog 79 #[.slice (some a) lb cb] w fun e w'=>∃ v,e=.returned v∧St [] w [.row 5 1 v l.length (bys l)] w':=by
 subst hlb
 refine enter (n:=8) (R:=fun e L=>∃ v,e=.returned v∧∀ w',St [] w L w'→St [] w [.row 5 1 v l.length (bys l)] w') [.slice (some a) l.length cb] F79 rfl rfl rfl (St.refl w) ?_ (fun e w' L' h H=>by obtain ⟨v,h1,h2⟩:=h;exact ⟨v,h1,h2 w' H⟩)
 refine VC_seq<|VC_region<|vl_v (q_assign rfl) rfl<|vl_nil<|th_n<|VC_seq<|VC_seq<|VC_region<|vl_v (q_move rfl) rfl<|vl_v (q_eqSN U22 rfl rfl) rfl<|vl_nil<|th_n ?_
 refine VC_no (rfl)<|VC_skip<|th_n<|VC_seq<|VC_region<|l_litA (cs:=bys []) U22 in5 (by decide) rfl rfl rfl rfl (by exact one_all rfl) rfl rfl<|fun b5=>vl_v (q_move rfl) rfl<|l_append 0 rfl rfl rfl U22 U22 in5 rfl (by decide) (Reads.old hB) (by simp only [zb,zu,zw,zi,za];omega) (by with_reducible first | exact bys_one _ | exact u32s_one _ | exact u64s_one _ | exact i64s_one _ | exact n64s_one _ | assumption) (by omega) (by omega) rfl<|fun A7 c7 hc7=>?_
 simp only [List.set_cons_zero,List.set_cons_succ,← bys_append,← u32s_append,← u64s_append,← i64s_append,List.nil_append,Nat.zero_add]
 refine vl_v (q_assign rfl) rfl<|vl_nil<|th_n<|VC_ret<|⟨_,res1 rfl rfl,?_⟩
 exact ⟨_,rfl,fun w' H=>H⟩
theorem cunpack_calls (k l:List UInt8) (a:Addr) (lb cb:Nat) (hk:k.length=32) (hlb:lb=32+l.length) (hcb:lb≤cb) (hl:l.length≤1000) (w:World) (hB:SlAt w (some a) (bys (k++l))) :
 Calls Tryz.prog 41 #[.slice (some a) lb cb] w fun e w'=>∃ v,e=.returned (.tuple #[.agg (bys k).toArray,v,vN 0])∧St [] w [.row 5 1 v l.length (bys l)] w':=by
 subst hlb
 have hk0:((bys (k++l)).drop 0).take 32=bys k:=by rw [List.drop_zero,bys_take,List.take_left' hk]
 have hl0:(bys (k++l)).drop (32*1)=bys l:=by rw [bys_drop,Nat.mul_one,List.drop_left' hk]
 have lbk:(bys k).length=32:=by rw [bys_length];exact hk
 have lkl:(bys (k++l)).length=32+l.length:=by rw [bys_length,List.length_append,hk]
 have hcl:∀ w1,SlAt w1 (adv (some a) 32 cb 1) (bys l)→Calls Tryz.prog 79 #[.slice (adv (some a) 32 cb 1) (32+l.length-32) (cb-32)] w1 fun e w'=>∃ v,e=.returned v∧St [] w1 [.row 5 1 v l.length (bys l)] w':=by
  intro w1 h1
  have e:∃ a',adv (some a) 32 cb 1=some a':=by unfold adv;split<;>exact ⟨_,rfl⟩
  obtain ⟨a',e⟩:=e
  rw [e] at h1 ⊢
  exact bclone_calls l a' _ _ (by omega) hl w1 h1
 refine enter (n:=18) (R:=fun e L=>∃ v,e=.returned (.tuple #[.agg (bys k).toArray,v,vN 0])∧∀ w',St [] w L w'→St [] w [.row 5 1 v l.length (bys l)] w') [.slice (some a) (32+l.length) cb] F41 rfl rfl rfl (St.refl w) ?_ (fun e w' L' h H=>by obtain ⟨v,h1,h2⟩:=h;exact ⟨v,h1,h2 w' H⟩)
 refine VC_seq<|VC_region<|l_allocA zr33 rfl<|fun b2=>vl_v (q_assign rfl) rfl<|vl_v (q_assign rfl) rfl<|vl_nil<|th_n<|VC_seq<|VC_seq<|VC_region<|vl_v (q_move rfl) rfl<|vl_v (q_lenS U22 rfl) rfl ?_
 refine vl_v (q_as (v:=.bool false) (q_lss_n (q:=32) U3 rfl rfl) (by simp)) rfl<|vl_nil<|th_n<|VC_no (rfl)<|VC_skip<|th_n<|VC_seq<|VC_region<|vl_v (q_move rfl) rfl<|vl_v (q_slcS0 (h:=32) U22 sz5 rfl ⟨_,rfl⟩ rfl (.inl rfl) (by omega) (by omega)) rfl<|vl_v (q_s2a U33 rfl (by omega)) rfl<|vl_v (q_loadsRd U33 rfl sz33 rfl (Reads.old hB) hk0 lbk (by omega)) rfl ?_
 refine l_allocA zr33 rfl<|fun b5=>l_storeA 0 rfl rfl rfl sz33 (by with_reducible assumption) (by with_reducible first | exact bys_one _ | exact u32s_one _ | exact u64s_one _ | exact i64s_one _ | exact n64s_one _ | assumption) (by rfl) ?_
 simp only [List.set_cons_zero,List.set_cons_succ]
 refine vl_nil<|th_n<|VC_seq<|VC_drawM 4 [[],[],[1],[2],[0,3],[3,4,0,1,2],[5,0,1,2,3,4]] [[],[],[1],[1,2],[0,1,2,3],[0,1,2,3,4],[0,1,2,3,4,5]] rfl (by kernel_rfl)<|qm_v (fun xs hx=>q_loads 0 U33 rfl rfl rfl sz33 (by with_reducible assumption))<|qm_v (fun xs hx=>q_move rfl)<|qm_v (fun xs hx=>q_slcS (l:=32) U22 sz5 rfl ⟨_,rfl⟩ rfl rfl (.inl rfl) (by omega) (by omega) (by omega))<|qm_a (fun xs hx=>q_callR F79 rfl rfl rfl (fun w1 H1=>hcl w1 (Reads.adv (Reads.old hB) (by rw [lkl];omega) hl0 w1 H1)))<|qm_end<|fun xs hx=>?_
 obtain ⟨⟨A17,c17,e17,hc17,hm17⟩,_⟩:=hx
 simp only [e17]
 simp only [resT,nRow,nBlk,nRowT,tupAt_0,List.append_assoc,List.nil_append,List.append_nil,List.cons_append,List.singleton_append,e17]
 refine VL.keep (kp [0,2,3,4,8,5,14,17] rfl)<|l_storeA 2 rfl rfl rfl sz33 (by with_reducible assumption) (by with_reducible first | exact bys_one _ | exact u32s_one _ | exact u64s_one _ | exact i64s_one _ | exact n64s_one _ | assumption) (by rfl) ?_
 simp only [List.set_cons_zero,List.set_cons_succ]
 refine vl_v (q_assign rfl) rfl<|vl_v (q_assign rfl) rfl<|vl_nil<|qn_n<|th_n<|VC_ret<|⟨_,resCTT 2 rfl U33 rfl rfl rfl sz33 (by with_reducible assumption) rfl rfl,?_⟩
 exact ⟨_,rfl,fun w' H=>St.pick H (ks:=[0]) (by decide) rfl⟩
end Go.Proofs.YtfpdnpppcoomnaaGreat
namespace Go.PBYtfpdnpppcoomnaaGreat
open Go Go.RowKit
structure SeD where
 root:List UInt8
 own:List UInt8
 o:Value
 t:Bool
 s:Value
 r:Value
 p:Nat
 st:Value
def seC (x:SeD):List Value:=bys x.root++(bys x.own++[x.o,.bool x.t,x.s,x.r,vN x.p,x.st])
structure SeD.ok (x:SeD):Prop where
 root:x.root.length=32
 own:x.own.length=64
 o:x.o.oneCell'=true
 s:x.s.oneCell'=true
 r:x.r.oneCell'=true
 st:x.st.oneCell'=true
structure SeF (c:List Value) (x:SeD) (more:List Value):Prop where
 len:c.length=102+more.length
 g0:(c.drop 0).take 32=bys x.root
 g1:(c.drop 32).take 64=bys x.own
 g12:(c.drop 64).take 32=bys (x.own.drop 32)
 g2:c[96]?=some x.o
 g3:c[97]?=some (.bool x.t)
 g4:c[98]?=some x.s
 g5:c[99]?=some x.r
 g6:c[100]?=some (vN x.p)
 g7:c[101]?=some x.st
 all:(c.drop 0).take 102=seC x
 w0:∀ v:List UInt8,v.length=32→splice c 0 (bys v)=seC { x with root:=v }++more
 w1:∀ v:List UInt8,v.length=64→splice c 32 (bys v)=seC { x with own:=v }++more
 w2:∀ v,c.set 96 v=seC { x with o:=v }++more
 w3:∀ v,c.set 97 (.bool v)=seC { x with t:=v }++more
 w4:∀ v,c.set 98 v=seC { x with s:=v }++more
 w5:∀ v,c.set 99 v=seC { x with r:=v }++more
 w6:∀ v,c.set 100 (vN v)=seC { x with p:=v }++more
 w7:∀ v,c.set 101 v=seC { x with st:=v }++more
 wa:∀ y:SeD,y.ok→splice c 0 (seC y)=seC y++more
theorem seC_f {x:SeD} (h:x.ok) (more:List Value):SeF (seC x++more) x more:=by
 obtain ⟨root,own,o,t,s,r,p,st⟩:=x
 have h1:root.length=32:=h.root
 have h2:own.length=64:=h.own
 clear h
 obtain ⟨f,rfl⟩:=ofFn_of h1
 obtain ⟨g,rfl⟩:=ofFn_of h2
 clear h1 h2
 refine ⟨by simp [seC,bys_length];omega,rfl,rfl,rfl,rfl,rfl,rfl,rfl,rfl,rfl,rfl,?_,?_,fun v=>rfl,fun v=>rfl,fun v=>rfl,fun v=>rfl,fun v=>rfl,fun v=>rfl,?_⟩
 ·intro v hv
  obtain ⟨e,rfl⟩:=ofFn_of hv
  rfl
 ·intro v hv
  obtain ⟨e,rfl⟩:=ofFn_of hv
  rfl
 ·rintro ⟨a,b,c,d,e,i,j,k⟩ hy
  have h1:a.length=32:=hy.root
  have h2:b.length=64:=hy.own
  clear hy
  obtain ⟨u,rfl⟩:=ofFn_of h1
  obtain ⟨v,rfl⟩:=ofFn_of h2
  rfl
theorem seC_length {x:SeD} (h:x.ok):(seC x).length=102:=by have:=(seC_f h []).len;rwa [List.append_nil] at this
theorem seC_one {x:SeD} (h:x.ok):∀ u∈seC x,u.oneCell'=true:=by
 intro u hu
 rcases List.mem_append.1 hu with hu | hu
 ·exact bys_one _ u hu
 ·rcases List.mem_append.1 hu with hu | hu
  ·exact bys_one _ u hu
  ·simp only [List.mem_cons,List.not_mem_nil,or_false] at hu
   rcases hu with rfl | rfl | rfl | rfl | rfl | rfl
   ·exact h.o
   ·rfl
   ·exact h.s
   ·exact h.r
   ·rfl
   ·exact h.st
def liC (c:List UInt8) (m:Nat):List Value:=bys c++[vN m]
theorem liC_f {c:List UInt8} {m:Nat} (h:c.length=32):(liC c m).length=33∧((liC c m).drop 0).take 32=bys c∧(liC c m)[32]?=some (vN m):=by
 obtain ⟨f,rfl⟩:=ofFn_of h
 exact ⟨rfl,rfl,rfl⟩
abbrev nilP:Value:=.pointer none
end Go.PBYtfpdnpppcoomnaaGreat
namespace Go.Proofs.YtfpdnpppcoomnaaGreat
open Go Go.RowKit Go.PBYtfpdnpppcoomnaaGreat
theorem built_li {c:List UInt8} (h:c.length=32):Tryz.prog.built 153 [(0,.agg (bys c).toArray)]=some (liC c 0).toArray:=by
 obtain ⟨f,rfl⟩:=ofFn_of h
 kernel_rfl
theorem built_li2 {c:List UInt8} {m:Nat} (h:c.length=32):Tryz.prog.built 153 [(0,.agg (bys c).toArray),(1,vN m)]=some (liC c m).toArray:=by
 obtain ⟨f,rfl⟩:=ofFn_of h
 kernel_rfl
def z64:List UInt8:=List.replicate 64 0
theorem built_st {c:List UInt8} {b d:Nat} (h:c.length=32):Tryz.prog.built 143 [(0,.agg (bys c).toArray),(2,vP b 0),(7,vP d 0)]=some (seC ⟨c,z64,vP b 0,false,nilP,nilP,0,vP d 0⟩).toArray:=by
 obtain ⟨f,rfl⟩:=ofFn_of h
 kernel_rfl
theorem built_st2 {c o:List UInt8} {d:Nat} (h:c.length=32) (h2:o.length=64):Tryz.prog.built 143 [(0,.agg (bys c).toArray),(1,.agg (bys o).toArray),(7,vP d 0)]=some (seC ⟨c,o,nilP,false,nilP,nilP,0,vP d 0⟩).toArray:=by
 obtain ⟨f,rfl⟩:=ofFn_of h
 obtain ⟨g,rfl⟩:=ofFn_of h2
 kernel_rfl
end Go.Proofs.YtfpdnpppcoomnaaGreat
namespace Go.Proofs.YtfpdnpppcoomnaaGreat
open Go.RowKit Go.PBYtfpdnpppcoomnaaGreat
def chainN (c:List UInt8):Nat→List UInt8
 | 0=>c
 | n+1=>keyP (chainN c n) tChain
def walkB (c:List UInt8):Nat→List UInt8
 | 0=>[]
 | n+1=>walkB c n++keyP (chainN c n) tMsg
theorem chainN_length (c:List UInt8) (hc:c.length=32):∀ n,(chainN c n).length=32
 | 0=>hc
 | n+1=>keyP_length ..
theorem walkB_length (c:List UInt8):∀ n,(walkB c n).length=32*n
 | 0=>rfl
 | n+1=>by rw [walkB,List.length_append,walkB_length c n,keyP_length];omega
theorem walk_calls (c:List UInt8) (n:Nat) (hc:c.length=32) (hn:n≤8) (w:World) :
 Calls Tryz.prog 109 #[.agg (bys c).toArray,vN n] w fun e w'=>∃ v,e=.returned (.tuple #[v,.agg (bys (chainN c n)).toArray,.int .i64 0])∧St [] w [.row 33 32 v n (bys (walkB c n))] w':=by
 have hcl:=chainN_length c hc
 have hcn:=hcl n
 refine enter (n:=39) (R:=fun e L=>∃ v,e=.returned (.tuple #[v,.agg (bys (chainN c n)).toArray,.int .i64 0])∧∀ w',St [] w L w'→St [] w [.row 33 32 v n (bys (walkB c n))] w') [.agg (bys c).toArray,vN n] F109 rfl rfl rfl (St.refl w) ?_ (fun e w' L' h H=>by obtain ⟨v,h1,h2⟩:=h;exact ⟨v,h1,h2 w' H⟩)
 refine VC_seq<|VC_region<|l_boxA rfl rfl<|fun b2=>vl_v (q_assign rfl) rfl<|l_allocA zr33 rfl<|fun b5=>vl_v (q_assign rfl) rfl<|vl_nil<|th_n<|VC_scope<|VC_seq<|VC_seq<|VC_region ?_
 refine vl_v (q_move rfl) rfl<|vl_v (q_false (q_lss_n (q:=0) U3 rfl rfl) (by simp)) rfl<|vl_v (q_move rfl) rfl<|vl_vg rfl (q_move rfl) rfl<|vl_vg rfl (q_false (q_gtr_n (q:=8) U3 rfl rfl) (by simp;omega)) rfl<|vl_v (q_pickF rfl rfl) rfl<|vl_nil<|th_n<|VC_no (rfl)<|VC_skip<|th_n<|VC_seq ?_
 refine VC_region<|vl_v (q_assign rfl) rfl<|vl_nil<|th_n<|VC_seq<|VC_label<|th_n<|VC_seq<|VC_seq<|VC_nilRow 33 32<|VC_region<|vl_v (q_move rfl) rfl ?_
 refine vl_v (q_add_n (q:=1) rfl rfl (by omega)) rfl<|vl_v (q_move rfl) rfl<|vl_nil<|th_n<|VC_block<|VC_loop (ι:=Nat × Option Addr × Nat) (fun x=>x.1≤n∧x.1≤x.2.2) (fun x=>[(1,vN n),(2,vP b2 0),(5,vP b5 0),(7,.slice x.2.1 x.1 x.2.2),(19,vN (n+1)),(20,vN x.1)]) (fun x=>[.row 33 32 (.slice x.2.1 x.1 x.2.2) x.1 (bys (walkB c x.1)),.blk b5 33 (bys (List.replicate 32 0)),.blk b2 33 (bys (chainN c x.1))]) (fun x=>n-x.1) (0,none,0) (⟨Nat.zero_le _,Nat.zero_le _⟩) (kp [1,2,5,7,19,20] rfl) (fun w H=>H) ?_
 rintro ⟨j,A7,c7⟩ hp
 obtain ⟨hp1,hp2⟩:=hp
 have hp1:j≤n:=hp1
 have hp2:j≤c7:=hp2
 refine VC_seq<|VC_region<|vl_v (q_true (q_lss_n (q:=n+1) U3 rfl rfl) (decide_eq_true (by omega))) rfl<|vl_nil<|th_n<|VC_seq<|VC_yes (rfl)<|VC_skip<|th_n<|VC_seq<|VC_block<|VC_seq ?_
 refine VC_region<|vl_v (q_move rfl) rfl<|vl_v (q_assign rfl) rfl<|vl_nil<|th_n<|VC_seq<|VC_seq<|VC_region<|vl_v (q_move rfl) rfl<|vl_v (q_move rfl) rfl<|vl_v (q_eql_n U3 rfl rfl) rfl<|vl_nil ?_
 refine th_n<|VC_cond rfl (fun ht25=>?_) (fun ht25=>?_)
 ·skip
  have ht25:j=n:=of_decide_eq_true ht25
  subst ht25
  refine VC_exit<|(th_x (bl_xo rfl (th_x (th_x (bl_xs (th_n ?_))))))
  refine VC_seq<|VC_drawV 3 [[],[],[0],[1,2,0],[3,0,1,2]] [[],[],[0],[0,1,2],[0,1,2,3]] rfl (by kernel_rfl)<|qv_v (q_move rfl)<|qv_v (q_loads 2 U33 rfl rfl rfl sz33 (by simp only [zb,zu,zw,zi,za];omega))<|qv_v (q_assign rfl)<|qv_end<|VL.keep (kp [1,2,5,7,19,20,21,22,8,23,24,25,37,38,4] rfl) ?_
  refine l_storeA 1 rfl rfl rfl sz33 (by simp only [zb,zu,zw,zi,za];omega) (by with_reducible first | exact bys_one _ | exact u32s_one _ | exact u64s_one _ | exact i64s_one _ | exact n64s_one _ | assumption) (by simp only [zs,zr,zm,za,zb,zu,zw,zi,zt,zd,zc,zn, *]<;>first | done | omega) ?_
  simp only [List.set_cons_zero,List.set_cons_succ]
  refine vl_v (q_assign rfl) rfl<|vl_nil<|qn_n<|th_n<|VC_ret<|sc_r ?_
  refine ⟨_,resTCT 1 rfl rfl U33 rfl rfl rfl sz33 (by simp only [zb,zu,zw,zi,za];omega) rfl,?_⟩
  exact ⟨_,rfl,fun w' H'=>St.pick H' (ks:=[0]) (by decide) rfl⟩
 ·skip
  have ht25:=of_decide_eq_false ht25
  have ht25:¬ j=n:=ht25
  have hcj:=hcl j
  have hk1:=keyP_length (chainN c j) tMsg
  have hk2:=keyP_length (chainN c j) tChain
  refine VC_skip<|th_n<|VC_seq<|VC_region<|vl_v (q_loads 2 U33 rfl rfl rfl sz33 (by simp only [zb,zu,zw,zi,za];omega)) rfl<|vl_v (q_callV F70 rfl rfl rfl (fun w1 H1=>step_calls (chainN c j) hcj w1)) rfl<|vl_v (q_move rfl) rfl<|vl_v (q_ext rfl rfl) rfl<|vl_v (q_ext rfl rfl) rfl<|l_allocA zr33 rfl<|fun b9=>l_allocA zr33 rfl<|fun b10=>?_
  refine l_storeA 1 rfl rfl rfl sz33 (by simp only [zb,zu,zw,zi,za];omega) (by with_reducible first | exact bys_one _ | exact u32s_one _ | exact u64s_one _ | exact i64s_one _ | exact n64s_one _ | assumption) (by simp only [zs,zr,zm,za,zb,zu,zw,zi,zt,zd,zc,zn, *]<;>first | done | omega) ?_
  simp only [List.set_cons_zero,List.set_cons_succ]
  refine l_storeA 0 rfl rfl rfl sz33 (by simp only [zb,zu,zw,zi,za];omega) (by with_reducible first | exact bys_one _ | exact u32s_one _ | exact u64s_one _ | exact i64s_one _ | exact n64s_one _ | assumption) (by simp only [zs,zr,zm,za,zb,zu,zw,zi,zt,zd,zc,zn, *]<;>first | done | omega) ?_
  simp only [List.set_cons_zero,List.set_cons_succ]
  refine vl_nil<|th_n<|VC_seq<|VC_region<|vl_v (q_move rfl) rfl<|vl_v (q_loads 1 U33 rfl rfl rfl sz33 (by simp only [zb,zu,zw,zi,za];omega)) rfl<|l_litG [bys (keyP (chainN c j) tMsg)] U208 in33 (by decide) (by decide) rfl rfl rfl (by intro v hv;rw [List.mem_singleton.1 hv,bys_length];exact hk1) rfl<|fun b33=>?_
  simp only [List.flatten_cons,List.flatten_nil,List.append_nil]
  refine l_append 3 rfl rfl rfl U208 U208 in33 rfl (by decide) (Reads.row 0 rfl) (by simp only [zb,zu,zw,zi,za];omega) (by with_reducible first | exact bys_one _ | exact u32s_one _ | exact u64s_one _ | exact i64s_one _ | exact n64s_one _ | assumption) (by omega) (by omega) rfl<|fun A34 c34 hc34=>?_
  simp only [List.set_cons_zero,List.set_cons_succ,← bys_append,← u32s_append,← u64s_append,← i64s_append,List.nil_append,Nat.zero_add]
  refine vl_v (q_assign rfl) rfl<|vl_nil<|th_n<|VC_region<|vl_v (q_loads 1 U33 rfl rfl rfl sz33 (by simp only [zb,zu,zw,zi,za];omega)) rfl<|l_storeA 5 rfl rfl rfl sz33 (by simp only [zb,zu,zw,zi,za];omega) (by with_reducible first | exact bys_one _ | exact u32s_one _ | exact u64s_one _ | exact i64s_one _ | exact n64s_one _ | assumption) (by simp only [zb,zu,zw,zi,za];omega) ?_
  simp only [List.set_cons_zero,List.set_cons_succ]
  refine vl_nil<|bl_n<|th_n<|VC_region<|vl_v (q_add_n (q:=1) rfl rfl (by omega)) rfl<|vl_v (q_move rfl) rfl<|vl_nil<|th_n ?_
  refine ⟨(j+1,A34,c34),⟨by show j+1≤n;omega,hc34⟩,by show n-(j+1)<n-j;omega,(kp [1,2,5,7,19,20] rfl),fun w H=>St.pick H (ks:=[3,4,5]) (by decide) rfl⟩
end Go.Proofs.YtfpdnpppcoomnaaGreat
namespace Go.PBYtfpdnpppcoomnaaGreat
open Go Go.RowKit
theorem run_append_empty {P:Program} (w:World) (t ty e:TypeId) (i:TypeInfo) (z:Value) (ht:P.underlying t=some (.slice e))
 (hi:P.info? e=some i) (hz:i.zero=some z) (hsize:i.size=1) (hby:i.bytes=1) (hzs:z.cells.size=1)
 (A0:Option Addr) (x:Value) (m:Nat) (news:List Value) (hl:news.length=m)
 (hlen:∀ w',(Builtin.lenOf x).run P w'=.ok m w') (hc1:(Builtin.firstCells 1 m x).run P w.drew=.ok news.toArray w.drew) (h1:∀ u∈news,u.oneCell'=true)
 (hm0:0<m) (hmax:m≤140737488355328) :
 ∃ v' w',(Builtin.append_ #[t,t] ty #[.slice A0 0 0,x]).run P w=.ok v' w'∧Row w' e 1 v' m news∧w.grownBy w' none∧v'.ownBlock=some w.heap.size:=by
 have hml:m≤maxLen:=by simp only [maxLen];omega
 have grown:Row (w.drew.alloc (.cells (news.toArray++Builtin.zeroCells z.cells (grownCap w m 0 e-m)) e)) e 1
  (.slice (some ⟨w.heap.size,0,none⟩) m (grownCap w m 0 e)) m news ∧
  w.grownBy (w.drew.alloc (.cells (news.toArray++Builtin.zeroCells z.cells (grownCap w m 0 e-m)) e)) none:=by
  have hge:=grownCap_ge w m 0 e
  have hcm:grownCap w m 0 e≤maxLen:=grownCap_le_maxLen w m 0 e hml
  refine ⟨⟨by omega,.inr ⟨w.heap.size,_,(Builtin.zeroCells z.cells (grownCap w m 0 e-m)).toList,rfl,hge,hcm,?_,⟨(0,0),?_,?_⟩⟩⟩,⟨rfl,rfl,rfl,by simp,fun k hk _=>Below.heap_alloc w.drew _ k hk⟩⟩
  ·rw [List.length_append,hl,Array.length_toList,appendZero,hzs]
   omega
  ·have:=heap_alloc_new w.drew (.cells (news.toArray++Builtin.zeroCells z.cells (grownCap w m 0 e-m)) e)
   rw [show w.drew.heap.size=w.heap.size from rfl] at this
   rw [this]
   congr 2
   apply Array.ext'
   simp
  ·exact .inl rfl
 have hnext:¬ (281474976710656<Builtin.nextslicecap m 0*i.bytes):=by
  have:Builtin.nextslicecap m 0=m:=by
   unfold Builtin.nextslicecap
   rw [if_pos (by omega)]
  rw [this,hby]
  omega
 have h63':¬ (9223372036854775807<(m:Int)):=by omega
 refine ⟨_,_,?_,grown.1,grown.2,rfl⟩
 have hold:(Builtin.firstCells 1 0 (.slice A0 0 0)).run P w.drew=.ok #[] w.drew:=by
  cases A0 with
  | none=>rfl
  | some ad =>
   have:=run_loadCells_list (P:=P) w.drew ad [] (fun j v hv=>by simp at hv)
   exact this
 have hroom:¬ m≤0:=by omega
 have hm1:¬ m=0:=by omega
 rw [hby] at hnext
 simp only [Nat.mul_one] at hnext
 simp [Builtin.append_,run_underlying ht,sizeOf,typeInfo,zeroValue,hi,hz,hsize,hby,hlen,hm1,hroom,h63',hnext,Question.forced,hold,hc1,newRow,grownCap]
section
variable {P : Program} {n : Nat} {S : List Nat} {w0 : World} {env : Env} {L : List Res}
variable {d : Tmp} {ty : TypeId} {pos : String} {af : Array Edge} {g : Option (Nat × Bool)}
theorem q_appendBig {t e:TypeId} {s x:Operand} {z:Value} {m cx:Nat} {A A0:Option Addr} {news:List Value} (hs:evalE env s=some (.slice A0 0 0)) (hx:evalE env x=some (.slice A m cx)) (hu:P.underlying t=some (.slice e))
 (hi:(P.info? e).map (fun i=>(i.zero,i.size,i.bytes))=some (some z,1,1)) (hzs:z.cells.size=1) (hA:Reads S w0 L A news) (hl:news.length=m) (h1:∀ u∈news,u.oneCell'=true) (h0:0<m) (hmax:m≤140737488355328) :
 QT P n S w0 { dst:=some d,op:=.call { callee:=.builtin .append,args:=#[s,x],argTypes:=#[t,t] },type:=ty,pos,after:=af,guard:=g } env L (.any (isSl m) (nRow e 1 m news)) :=
 ⟨fun a w hm H=>by
  obtain ⟨i,hi,hz',h1',h2'⟩:=info_parts hi
  obtain ⟨v',w',hr,hrow,hg,hat⟩:=run_append_empty (P:=P) w t ty e i z hu hi hz' h1' h2' hzs A0 (.slice A m cx) m news hl (fun w'=>rfl) (cellsOfSl (size:=1) (hA w H) (by omega) 1) h1 h0 hmax
  refine opw_val (v:=v') (w':=w') (by simp only [BigFrame.execOp_builtin,BigFrame.builtin_append,List.map_toArray,List.map_cons,List.map_nil,hm.eval hs,hm.eval hx,Sem.run_bind,hr,Result.andThen_ok,Sem.run_pure]) ?_
  obtain ⟨B,c,rfl,hc,hcm,_⟩:=Row.slice hrow
  exact ⟨_,rfl,fun h=>by simp at h,⟨B,c,rfl,hc,hcm⟩,(St.refl w).add hg hrow (fun b hb=>by simp only [Res.at] at hb;rw [hb] at hat;simp only [Option.some.injEq] at hat;omega)⟩⟩
end
end Go.PBYtfpdnpppcoomnaaGreat
namespace Go.Proofs.YtfpdnpppcoomnaaGreat
open Go.RowKit Go.PBYtfpdnpppcoomnaaGreat
theorem mac0_pos (b:List UInt8) (B:Option Addr) (cb:Nat) (hb0:0<b.length) (hb:b.length≤140737488355328) (w:World) (hB:SlAt w B (bys b)) (hcb:b.length≤cb) :
 Calls Tryz.prog 67 #[.slice none 0 0,.slice B b.length cb] w fun e w'=>e=.returned (.tuple #[.agg (bys (macB [] b)).toArray,.int .i64 0])∧Kept [] w w':=by
 have hk0:(hKey 0).length=8:=hKey_length 0
 refine enter (n:=71) (R:=fun e L=>e=.returned (.tuple #[.agg (bys (macB [] b)).toArray,.int .i64 0])) [.slice none 0 0,.slice B b.length cb] F67 rfl rfl rfl (St.refl w) ?_ (fun e w' L' h H=>⟨h,H.kept⟩)
 refine VC_seq<|VC_region<|l_allocA zr33 rfl<|fun b4=>vl_v (q_assign rfl) rfl<|vl_nil<|th_n<|VC_seq<|VC_seq<|VC_region<|vl_v (q_move rfl) rfl<|vl_v (q_lenS U22 rfl) rfl<|vl_v (q_gtr_n (q:=32) U3 rfl rfl) rfl ?_
 refine vl_nil<|th_n<|VC_cond rfl (fun ht14=>?_) (fun ht14=>?_)
 ·skip
  have ht14:=of_decide_eq_true ht14
  exfalso;omega
 ·skip
  have ht14:=of_decide_eq_false ht14
  refine VC_skip<|th_n<|VC_seq<|VC_region<|vl_v (q_callV F89 rfl rfl rfl (fun w1 H1=>first_calls w1)) rfl<|l_allocA zr175 rfl<|fun b6=>?_
  refine l_storeA 0 rfl rfl rfl sz175 (by rfl) (by with_reducible first | exact bys_one _ | exact u32s_one _ | exact u64s_one _ | exact i64s_one _ | exact n64s_one _ | assumption) (by simp only [zs,zr,zm,za,zb,zu,zw,zi,zt,zd,zc,zn, *]<;>first | done | omega) ?_
  simp only [List.set_cons_zero,List.set_cons_succ]
  refine vl_nil<|th_n<|VC_seq<|VC_region<|vl_v (q_idxA (m:=0) U175 sz127 rfl rfl (by omega) (r:=_) (by rw [Nat.mul_one,Nat.zero_add])) rfl<|vl_v (q_load 0 U127 rfl rfl rfl (u32s_at (by decide))) rfl<|vl_v (q_move rfl) rfl<|vl_v (q_lenS U22 rfl) rfl<|vl_v (q_conv_nu32 U3 U127 rfl) rfl<|vl_v (q_shl_u32 (m:=8) rfl rfl) rfl<|vl_v (q_xor_u32 (p:=UInt32.ofNat 16842784) rfl rfl) rfl<|vl_v (q_xor_u32 rfl rfl) rfl ?_
  refine vl_v (q_idxA (m:=0) U175 sz127 rfl rfl (by omega) (r:=_) (by rw [Nat.mul_one,Nat.zero_add])) rfl<|l_stU32 0 rfl rfl rfl sz127 (by decide) ?_
  simp only [List.set_cons_zero,List.set_cons_succ]
  rw [show iv.set 0 (iv.getD 0 0 ^^^ (UInt32.ofNat 16842784 ^^^ UInt32.ofNat ((UInt32.ofNat 0).toNat*2^(min 8 32))))=hKey 0 from rfl]
  refine vl_nil<|th_n<|VC_seq<|VC_region<|vl_v (q_assign rfl) rfl<|vl_nil<|th_n<|VC_seq<|VC_seq<|VC_region<|vl_v (q_move rfl) rfl<|vl_v (q_lenS U22 rfl) rfl ?_
  refine vl_v (q_gtr_n (q:=0) U3 rfl rfl) rfl<|vl_nil<|th_n<|VC_cond rfl (fun ht28=>?_) (fun ht28=>?_)
  ·skip
   have ht28:=of_decide_eq_true ht28
   exfalso;omega
  ·skip
   have ht28:=of_decide_eq_false ht28
   refine VC_skip<|th_n<|VC_seq<|VC_region<|vl_v (q_move rfl) rfl<|vl_v (q_move rfl) rfl<|vl_q (q_appendBig rfl rfl U22 in5 rfl (Reads.old hB) (bys_length _) (bys_one _) hb0 hb) trivial rfl ?_
   rintro _ ⟨A35,c35,rfl,hc35,_⟩
   refine vl_v (q_assign rfl) rfl<|vl_nil<|th_n<|VC_seq<|VC_rowBlk (by omega)<|fun bA more eA=>?_
   subst eA
   refine VC_region<|vl_v (q_assign rfl) rfl<|vl_nil<|th_n<|VC_seq<|VC_block<|VC_loop (ι:=Nat) (fun j=>64*j<b.length) (fun j=>[(1,.slice B b.length cb),(4,vP b4 0),(5,.int .i64 0),(6,vP b6 0),(7,.slice (some ⟨bA,64*j,none⟩) (b.length-64*j) (c35-64*j)),(8,vU64 (UInt64.ofNat (64*j)))]) (fun j=>[.blk b6 175 (u32s (hs (hKey 0) b j)),.blk bA 5 (bys b++more),.blk b4 33 (bys (List.replicate 32 0))]) (fun j=>b.length-64*j) 0 (by omega) (kp [1,4,5,6,7,8] rfl) (fun w H=>St.pick H (ks:=[1,0,2]) (by decide) rfl) ?_
   rintro j hp
   have hhl:=(hs_length (hKey 0) b j).trans (hKey_length 0)
   refine VC_seq<|VC_seq<|VC_region<|vl_v (q_move rfl) rfl<|vl_v (q_lenS U22 rfl) rfl<|vl_v (q_gtr_n (q:=64) U3 rfl rfl) rfl<|vl_nil<|th_n<|VC_cond rfl (fun ht38=>?_) (fun ht38=>?_)
   ·skip
    have ht38:=of_decide_eq_true ht38
    refine VC_skip<|th_n<|VC_block<|VC_seq<|VC_region<|vl_v (q_move rfl) rfl<|vl_v (q_as (v:=vU64 (UInt64.ofNat (64*(j+1)))) (q_add_u64 (q:=UInt64.ofNat 64) rfl rfl) (by rw [ofNat64_add,show 64*(j+1)=64*j+64 by omega])) rfl<|vl_v (q_assign rfl) rfl<|vl_nil<|th_n<|VC_seq<|VC_region ?_
    refine vl_v (q_move rfl) rfl<|vl_v (q_s2a U179 rfl (by omega)) rfl<|vl_v (q_move rfl) rfl<|l_callE F90 rfl rfl rfl (fun w1 H1=>into_false (hs (hKey 0) b j) ((b.drop (64*j)).take 64) (UInt64.ofNat (64*(j+1))) b6 bA (64*j) hhl (by rw [List.length_take,List.length_drop];omega) (chunkPart (by omega)) w1 H1) rfl<|vl_nil<|th_n<|VC_region<|vl_v (q_move rfl) rfl<|vl_v (q_slcSb (l:=64) (r:=64*(j+1)) U22 sz5 rfl ⟨_,rfl⟩ rfl rfl (.inl rfl) (by omega) (by omega) (by omega) (by omega) (by omega)) rfl<|vl_v (q_assign rfl) rfl<|vl_nil<|bl_n<|th_n ?_
    refine ⟨j+1,by omega,by omega,(Sub.cons (s:=1) rfl (Sub.cons (s:=4) rfl (Sub.cons (s:=5) rfl (Sub.cons (s:=6) rfl (Sub.cons (s:=7) (by show _=some (Value.slice _ (b.length-64*(j+1)) (c35-64*(j+1)));rw [show b.length-64*(j+1)=b.length-64*j-64 by omega,show c35-64*(j+1)=c35-64*j-64 by omega];rfl) (Sub.cons (s:=8) rfl (Sub.nil _))))))),fun w H=>H⟩
   ·skip
    have ht38:=of_decide_eq_false ht38
    have hj:j=(b.length-1) / 64:=by omega
    have hdl:(b.drop (64*j)).length=b.length-64*j:=by rw [List.length_drop]
    have hdl':(bys (b.drop (64*j))).length=b.length-64*j:=by rw [bys_length];exact hdl
    refine VC_exit<|(th_x (th_x (bl_xs (th_n ?_))))
    refine VC_seq<|VC_region<|l_allocA zr179 rfl<|fun b9=>vl_nil<|th_n<|VC_seq<|VC_region<|vl_v (q_move rfl) rfl ?_
    refine vl_v (q_slcA U179 sz5 rfl rfl rfl rfl (.inl rfl) (by omega) (by omega) (by omega) (by omega) (by (try simp only [Nat.mul_one,Nat.zero_add,Nat.zero_mul,Nat.mul_zero,Nat.add_zero])<;>rfl)) rfl ?_
    refine vl_v (q_move rfl) rfl ?_
    refine l_copy 0 rfl rfl rfl U22 U22 sz5 (Reads.blkTake 2 (64*j) (b.length-64*j) rfl (restPart (by omega))) (by omega) (by with_reducible first | exact bys_one _ | exact u32s_one _ | exact u64s_one _ | exact i64s_one _ | exact n64s_one _ | assumption) (by simp only [zs,zr,zm,za,zb,zu,zw,zi,zt,zd,zc,zn, *]<;>first | done | omega) rfl ?_
    simp only [List.set_cons_zero,List.set_cons_succ]
    rw [← hdl,cp3 (b.drop (64*j)) (by omega)]
    refine vl_v (q_conv_nu64 U3 U78 rfl) rfl<|vl_v (q_as (v:=vU64 (UInt64.ofNat b.length)) (q_add_u64 rfl rfl) (by rw [ofNat64_add,hdl,show 64*j+min (b.length-64*j) 64=b.length by omega])) rfl<|vl_v (q_assign rfl) rfl<|vl_nil<|th_n<|VC_seq<|VC_region<|vl_v (q_move rfl) rfl<|l_callE F90 rfl rfl rfl (fun w1 H1=>into_true (hs (hKey 0) b j) (padB (b.drop (64*j))) (UInt64.ofNat b.length) b6 b9 0 hhl (padB_length (by omega)) (by rw [List.drop_zero,List.take_of_length_le (by rw [bys_length,padB_length (by omega)];omega)]) w1 (H1.pick (ks:=[1,0,2,3]) (by decide) rfl)) rfl<|vl_nil<|th_n<|VC_seq ?_
    refine VC_region ?_
    rw [show into (hs (hKey 0) b j) (padB (b.drop (64*j))) (UInt64.ofNat b.length) true=hEnd (hKey 0) b by rw [hEnd,← hj]]
    have hel:=(hEnd_length (hKey 0) b).trans (hKey_length 0)
    refine l_allocA zr33 rfl<|fun b10=>vl_nil<|th_n<|VC_seq<|VC_seq<|VC_region<|vl_v (q_move rfl) rfl<|vl_nil<|th_n<|VC_block<|VC_loop (ι:=Nat) (fun z=>z≤32) (fun z=>[(4,vP b4 0),(6,vP b6 0),(10,vP b10 0),(55,vN z)]) (fun z=>[.blk b10 33 (bys (hOut (hEnd (hKey 0) b) z)),.blk b6 175 (u32s (hEnd (hKey 0) b)),.blk b4 33 (bys (List.replicate 32 0))]) (fun z=>32-z) 0 (by omega) (kp [4,6,10,55] rfl) (fun w H=>St.pick H (ks:=[0,1,4]) (by decide) rfl) ?_
    rintro z hp
    have hol:=hOut_length (hEnd (hKey 0) b) z
    refine VC_seq<|VC_region<|vl_v (q_lss_n (q:=32) U3 rfl rfl) rfl<|vl_nil<|th_n<|VC_seq<|VC_cond rfl (fun ht56=>?_) (fun ht56=>?_)
    ·skip
     have ht56:=of_decide_eq_true ht56
     refine VC_skip<|th_n<|VC_seq<|VC_block<|VC_seq<|VC_region<|vl_v (q_move rfl) rfl<|vl_v (q_assign rfl) rfl<|vl_nil<|th_n<|VC_region<|vl_v (q_move rfl) rfl ?_
     refine vl_v (q_move rfl) rfl<|vl_v (q_quo_n (q:=4) rfl rfl (by omega) (by omega)) rfl<|vl_v (q_idxA U175 sz127 rfl rfl (by omega) (r:=_) (by rw [Nat.mul_one,Nat.zero_add])) rfl<|vl_v (q_load 1 U127 rfl rfl rfl (u32s_at (by omega))) rfl<|vl_v (q_move rfl) rfl<|vl_v (q_rem_n (q:=4) rfl rfl (by omega)) rfl<|vl_v (q_mul_n (q:=8) rfl rfl (by omega)) rfl<|vl_v (q_shr_u32 rfl rfl) rfl<|vl_v (q_conv_nu8 U127 U5 rfl) rfl<|vl_v (q_idxA U33 sz5 rfl rfl (by omega) (r:=_) (by rw [Nat.mul_one,Nat.zero_add])) rfl<|l_stB 0 rfl rfl rfl sz5 (by omega) ?_
     simp only [List.set_cons_zero,List.set_cons_succ]
     refine vl_nil<|bl_n<|th_n<|VC_region<|vl_v (q_add_n (q:=1) rfl rfl (by omega)) rfl<|vl_v (q_move rfl) rfl<|vl_nil<|th_n<|⟨z+1,by omega,by omega,(kp [4,6,10,55] rfl),fun w H=>H⟩
    ·skip
     have ht56:=of_decide_eq_false ht56
     obtain rfl:z=32:=by omega
     rw [show hOut (hEnd (hKey 0) b) 32=macB [] b from rfl]
     have hml:=macB_length [] b
     refine VC_exit<|(th_x (th_x (bl_xs (th_n ?_))))
     refine VC_seq<|VC_region<|vl_v (q_loads 0 U33 rfl rfl rfl sz33 (by simp only [zb,zu,zw,zi,za];omega)) rfl ?_
     refine l_storeA 2 rfl rfl rfl sz33 (by simp only [zb,zu,zw,zi,za];omega) (by with_reducible first | exact bys_one _ | exact u32s_one _ | exact u64s_one _ | exact i64s_one _ | exact n64s_one _ | assumption) (by simp only [zs,zr,zm,za,zb,zu,zw,zi,zt,zd,zc,zn, *]<;>first | done | omega) ?_
     simp only [List.set_cons_zero,List.set_cons_succ]
     refine vl_v (q_assign rfl) rfl<|vl_nil<|th_n<|VC_ret ?_
     refine ⟨_,resC2 2 rfl U33 rfl rfl rfl sz33 (by simp only [zb,zu,zw,zi,za];omega) rfl,?_⟩
     exact rfl
theorem mac0_nil (b:List UInt8) (B:Option Addr) (cb:Nat) (hb:b.length=0) (w:World) (hB:SlAt w B (bys b)) (hcb:b.length≤cb) :
 Calls Tryz.prog 67 #[.slice none 0 0,.slice B b.length cb] w fun e w'=>e=.returned (.tuple #[.agg (bys (macB [] b)).toArray,.int .i64 0])∧Kept [] w w':=by
 obtain rfl:=List.eq_nil_of_length_eq_zero hb
 have hk0:(hKey 0).length=8:=hKey_length 0
 refine enter (n:=71) (R:=fun e L=>e=.returned (.tuple #[.agg (bys (macB [] [])).toArray,.int .i64 0])) [.slice none 0 0,.slice B 0 cb] F67 rfl rfl rfl (St.refl w) ?_ (fun e w' L' h H=>⟨h,H.kept⟩)
 refine VC_seq<|VC_region<|l_allocA zr33 rfl<|fun b4=>vl_v (q_assign rfl) rfl<|vl_nil<|th_n<|VC_seq<|VC_seq<|VC_region<|vl_v (q_move rfl) rfl<|vl_v (q_lenS U22 rfl) rfl<|vl_v (q_gtr_n (q:=32) U3 rfl rfl) rfl ?_
 refine vl_nil<|th_n<|VC_cond rfl (fun ht14=>?_) (fun ht14=>?_)
 ·skip
  have ht14:=of_decide_eq_true ht14
  exfalso;omega
 ·skip
  have ht14:=of_decide_eq_false ht14
  refine VC_skip<|th_n<|VC_seq<|VC_region<|vl_v (q_callV F89 rfl rfl rfl (fun w1 H1=>first_calls w1)) rfl<|l_allocA zr175 rfl<|fun b6=>?_
  refine l_storeA 0 rfl rfl rfl sz175 (by rfl) (by with_reducible first | exact bys_one _ | exact u32s_one _ | exact u64s_one _ | exact i64s_one _ | exact n64s_one _ | assumption) (by simp only [zs,zr,zm,za,zb,zu,zw,zi,zt,zd,zc,zn, *]<;>first | done | omega) ?_
  simp only [List.set_cons_zero,List.set_cons_succ]
  refine vl_nil<|th_n<|VC_seq<|VC_region<|vl_v (q_idxA (m:=0) U175 sz127 rfl rfl (by omega) (r:=_) (by rw [Nat.mul_one,Nat.zero_add])) rfl<|vl_v (q_load 0 U127 rfl rfl rfl (u32s_at (by decide))) rfl<|vl_v (q_move rfl) rfl<|vl_v (q_lenS U22 rfl) rfl<|vl_v (q_conv_nu32 U3 U127 rfl) rfl<|vl_v (q_shl_u32 (m:=8) rfl rfl) rfl<|vl_v (q_xor_u32 (p:=UInt32.ofNat 16842784) rfl rfl) rfl<|vl_v (q_xor_u32 rfl rfl) rfl ?_
  refine vl_v (q_idxA (m:=0) U175 sz127 rfl rfl (by omega) (r:=_) (by rw [Nat.mul_one,Nat.zero_add])) rfl<|l_stU32 0 rfl rfl rfl sz127 (by decide) ?_
  simp only [List.set_cons_zero,List.set_cons_succ]
  rw [show iv.set 0 (iv.getD 0 0 ^^^ (UInt32.ofNat 16842784 ^^^ UInt32.ofNat ((UInt32.ofNat 0).toNat*2^(min 8 32))))=hKey 0 from rfl]
  refine vl_nil<|th_n<|VC_seq<|VC_region<|vl_v (q_assign rfl) rfl<|vl_nil<|th_n<|VC_seq<|VC_seq<|VC_region<|vl_v (q_move rfl) rfl<|vl_v (q_lenS U22 rfl) rfl ?_
  refine vl_v (q_gtr_n (q:=0) U3 rfl rfl) rfl<|vl_nil<|th_n<|VC_cond rfl (fun ht28=>?_) (fun ht28=>?_)
  ·skip
   have ht28:=of_decide_eq_true ht28
   exfalso;omega
  ·skip
   have ht28:=of_decide_eq_false ht28
   refine VC_skip<|th_n<|VC_seq<|VC_nilRow 5 1<|VC_region<|vl_v (q_move rfl) rfl<|vl_v (q_move rfl) rfl<|l_append 0 rfl rfl rfl U22 U22 in5 rfl (by decide) (Reads.old hB) (by simp only [zb,zu,zw,zi,za];omega) (by with_reducible first | exact bys_one _ | exact u32s_one _ | exact u64s_one _ | exact i64s_one _ | exact n64s_one _ | assumption) (by omega) (by omega) rfl<|fun A35 c35 hc35=>?_
   simp only [List.set_cons_zero,List.set_cons_succ,← bys_append,← u32s_append,← u64s_append,← i64s_append,List.nil_append,Nat.zero_add]
   refine vl_v (q_assign rfl) rfl<|vl_nil<|th_n<|VC_seq<|VC_region<|vl_v (q_assign rfl) rfl<|vl_nil<|th_n<|VC_seq<|VC_block<|VC_loop (ι:=Unit) (fun j=>True) (fun j=>[(4,vP b4 0),(5,.int .i64 0),(6,vP b6 0),(7,.slice A35 0 c35),(8,vU64 (UInt64.ofNat 0))]) (fun j=>[.row 5 1 (.slice A35 0 c35) 0 (bys []),.blk b6 175 (u32s (hKey 0)),.blk b4 33 (bys (List.replicate 32 0))]) (fun j=>0) () (trivial) (kp [4,5,6,7,8] rfl) (fun w H=>H) ?_
   rintro j hp
   refine VC_seq<|VC_seq<|VC_region<|vl_v (q_move rfl) rfl<|vl_v (q_lenS U22 rfl) rfl<|vl_v (q_gtr_n (q:=64) U3 rfl rfl) rfl<|vl_nil<|th_n<|VC_cond rfl (fun ht38=>?_) (fun ht38=>?_)
   ·skip
    have ht38:=of_decide_eq_true ht38
    exfalso;omega
   ·skip
    have ht38:=of_decide_eq_false ht38
    refine VC_exit<|(th_x (th_x (bl_xs (th_n ?_))))
    refine VC_seq<|VC_region<|l_allocA zr179 rfl<|fun b9=>vl_nil<|th_n<|VC_seq<|VC_region<|vl_v (q_move rfl) rfl ?_
    refine vl_v (q_slcA U179 sz5 rfl rfl rfl rfl (.inl rfl) (by omega) (by omega) (by omega) (by omega) (by (try simp only [Nat.mul_one,Nat.zero_add,Nat.zero_mul,Nat.mul_zero,Nat.add_zero])<;>rfl)) rfl ?_
    refine vl_v (q_move rfl) rfl<|l_copy 0 rfl rfl rfl U22 U22 sz5 Reads.nil (by omega) (by exact one_all rfl) (by omega) rfl ?_
    simp only [List.set_cons_zero,List.set_cons_succ]
    rw [show splice (bys (List.replicate 64 0)) 0 (([]:List Value).take (min 0 64))=bys (padB []) by have:=cp3 [] (by simp);simpa using this]
    refine vl_v (q_conv_nu64 U3 U78 rfl) rfl<|vl_v (q_as (v:=vU64 (UInt64.ofNat 0)) (q_add_u64 rfl rfl) (by rfl)) rfl<|vl_v (q_assign rfl) rfl<|vl_nil<|th_n<|VC_seq<|VC_region<|vl_v (q_move rfl) rfl<|l_callE F90 rfl rfl rfl (fun w1 H1=>into_true (hKey 0) (padB []) (UInt64.ofNat 0) b6 b9 0 hk0 (padB_length (by simp)) (by rw [List.drop_zero,List.take_of_length_le (by rw [bys_length,padB_length (by simp)];omega)]) w1 (H1.pick (ks:=[2,0,1,3]) (by decide) rfl)) rfl<|vl_nil<|th_n<|VC_seq ?_
    refine VC_region ?_
    rw [show into (hKey 0) (padB []) (UInt64.ofNat 0) true=hEnd (hKey 0) [] from rfl]
    have hel:=(hEnd_length (hKey 0) []).trans (hKey_length 0)
    refine l_allocA zr33 rfl<|fun b10=>vl_nil<|th_n<|VC_seq<|VC_seq<|VC_region<|vl_v (q_move rfl) rfl<|vl_nil<|th_n<|VC_block<|VC_loop (ι:=Nat) (fun z=>z≤32) (fun z=>[(4,vP b4 0),(6,vP b6 0),(10,vP b10 0),(55,vN z)]) (fun z=>[.blk b10 33 (bys (hOut (hEnd (hKey 0) []) z)),.blk b6 175 (u32s (hEnd (hKey 0) [])),.blk b4 33 (bys (List.replicate 32 0))]) (fun z=>32-z) 0 (by omega) (kp [4,6,10,55] rfl) (fun w H=>St.pick H (ks:=[0,1,4]) (by decide) rfl) ?_
    rintro z hp
    have hol:=hOut_length (hEnd (hKey 0) []) z
    refine VC_seq<|VC_region<|vl_v (q_lss_n (q:=32) U3 rfl rfl) rfl<|vl_nil<|th_n<|VC_seq<|VC_cond rfl (fun ht56=>?_) (fun ht56=>?_)
    ·skip
     have ht56:=of_decide_eq_true ht56
     refine VC_skip<|th_n<|VC_seq<|VC_block<|VC_seq<|VC_region<|vl_v (q_move rfl) rfl<|vl_v (q_assign rfl) rfl<|vl_nil<|th_n<|VC_region<|vl_v (q_move rfl) rfl ?_
     refine vl_v (q_move rfl) rfl<|vl_v (q_quo_n (q:=4) rfl rfl (by omega) (by omega)) rfl<|vl_v (q_idxA U175 sz127 rfl rfl (by omega) (r:=_) (by rw [Nat.mul_one,Nat.zero_add])) rfl<|vl_v (q_load 1 U127 rfl rfl rfl (u32s_at (by omega))) rfl<|vl_v (q_move rfl) rfl<|vl_v (q_rem_n (q:=4) rfl rfl (by omega)) rfl<|vl_v (q_mul_n (q:=8) rfl rfl (by omega)) rfl<|vl_v (q_shr_u32 rfl rfl) rfl<|vl_v (q_conv_nu8 U127 U5 rfl) rfl<|vl_v (q_idxA U33 sz5 rfl rfl (by omega) (r:=_) (by rw [Nat.mul_one,Nat.zero_add])) rfl<|l_stB 0 rfl rfl rfl sz5 (by omega) ?_
     simp only [List.set_cons_zero,List.set_cons_succ]
     refine vl_nil<|bl_n<|th_n<|VC_region<|vl_v (q_add_n (q:=1) rfl rfl (by omega)) rfl<|vl_v (q_move rfl) rfl<|vl_nil<|th_n<|⟨z+1,by omega,by omega,(kp [4,6,10,55] rfl),fun w H=>H⟩
    ·skip
     have ht56:=of_decide_eq_false ht56
     obtain rfl:z=32:=by omega
     rw [show hOut (hEnd (hKey 0) []) 32=macB [] [] from rfl]
     have hml:=macB_length [] []
     refine VC_exit<|(th_x (th_x (bl_xs (th_n ?_))))
     refine VC_seq<|VC_region<|vl_v (q_loads 0 U33 rfl rfl rfl sz33 (by simp only [zb,zu,zw,zi,za];omega)) rfl ?_
     refine l_storeA 2 rfl rfl rfl sz33 (by simp only [zb,zu,zw,zi,za];omega) (by with_reducible first | exact bys_one _ | exact u32s_one _ | exact u64s_one _ | exact i64s_one _ | exact n64s_one _ | assumption) (by simp only [zs,zr,zm,za,zb,zu,zw,zi,zt,zd,zc,zn, *]<;>first | done | omega) ?_
     simp only [List.set_cons_zero,List.set_cons_succ]
     refine vl_v (q_assign rfl) rfl<|vl_nil<|th_n<|VC_ret ?_
     refine ⟨_,resC2 2 rfl U33 rfl rfl rfl sz33 (by simp only [zb,zu,zw,zi,za];omega) rfl,?_⟩
     exact rfl
theorem mac0_calls (b:List UInt8) (B:Option Addr) (cb:Nat) (hb:b.length≤140737488355328) (w:World) (hB:SlAt w B (bys b)) (hcb:b.length≤cb) :
 Calls Tryz.prog 67 #[.slice none 0 0,.slice B b.length cb] w fun e w'=>e=.returned (.tuple #[.agg (bys (macB [] b)).toArray,.int .i64 0])∧Kept [] w w':=by
 by_cases h:b.length=0
 ·exact mac0_nil b B cb h w hB hcb
 ·exact mac0_pos b B cb (by omega) hb w hB hcb
end Go.Proofs.YtfpdnpppcoomnaaGreat

