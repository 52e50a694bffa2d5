/- Words and laws that the proofs of this seat share, part 9 of 10. No condition. -/
import Derived.Test.YtfpdnpppcoomnaaGreatQ40th
set_option linter.unusedVariables false
set_option linter.unusedSimpArgs false
set_option linter.defProp false
set_option maxRecDepth 100000
set_option maxHeartbeats 16000000
namespace Go.Proofs.YtfpdnpppcoomnaaGreat
open Go Go.RowKit Go.PBYtfpdnpppcoomnaaGreat
theorem seC1_f {x:SeD} (hx:x.ok):SeF (seC x) x []:=by have h:=seC_f hx [];rwa [List.append_nil] at h
theorem metS_ok {x:SeD} (hx:x.ok) (cm:List UInt8) (b d:Nat):(metS x cm (vP b 0) (vP d 0)).ok:=by
 have h:(rootN x.root cm).length=32:=keyP_length ..
 unfold metS
 generalize rootN x.root cm=r at h ⊢
 exact ⟨h,hx.own,rfl,hx.s,rfl,hx.st⟩
theorem metS_st (x:SeD) (cm:List UInt8) (l h:Value):(metS x cm l h).st=x.st:=by simp only [metS]
theorem metS_r (x:SeD) (cm:List UInt8) (l h:Value):(metS x cm l h).r=l:=by simp only [metS]
theorem metS_o (x:SeD) (cm:List UInt8) (l h:Value):(metS x cm l h).o=h:=by simp only [metS]
theorem metS_set (x:SeD) (cm:List UInt8) (l h l':Value):{ metS x cm l h with r:=l' }=metS x cm l' h:=by simp only [metS]
theorem chainN_succ (c:List UInt8) (n:Nat):chainN c (n+1)=nextK (chainN c n):=rfl
section
variable {S : List Nat} {w0 w1 : World} {R : List Res} {b m : Nat} {o : Obj} {A : Option Addr} {c : Nat} {pub : List UInt8} {n : Nat}
theorem sktake0_calls (hpub:pub.length=32) (hn:n≤1000) (hE:MapOf o (mapE [])) (H:St S w0 (SkR b m o A c []++R) w1) :
 Calls Tryz.prog 97 #[vP b 0,.agg (bys pub).toArray,vN n] w1 fun r w'=>r=.returned (.tuple #[.agg (bys zKey).toArray,.bool false])∧SkC S w0 b m [] R w' :=
 (take_none pub (n:Int) H.own hE ⟨by simp,by simp⟩ hpub (wf_small n (by omega)) (by simp)).mono fun r w' h=>⟨h.1,SkC.swap H h.2⟩
theorem sktake1_calls {L:List Ent} {k:List UInt8} (hG:GoodL (L++[⟨pub,(n:Int),k⟩])) (hl:L.length≤100) (hE:MapOf o (mapE (L++[⟨pub,(n:Int),k⟩]))) (H:St S w0 (SkR b m o A c (L++[⟨pub,(n:Int),k⟩])++R) w1) :
 Calls Tryz.prog 97 #[vP b 0,.agg (bys pub).toArray,vN n] w1 fun r w'=>r=.returned (.tuple #[.agg (bys k).toArray,.bool true])∧SkC S w0 b m L R w':=by
 have h:=take_yes L.length ⟨pub,(n:Int),k⟩ H.own hE hG (by simp) (by simp;omega)
 rw [show (L++[(⟨pub,(n:Int),k⟩:Ent)]).eraseIdx L.length=L by rw [List.eraseIdx_append_of_length_le (Nat.le_refl _)];simp] at h
 exact h.mono fun r w' h=>⟨h.1,SkC.swap H h.2⟩
end
theorem messageA_calls {S:List Nat} {w0:World} {R:List Res} (bt:Nat) (x:SeD) (s q pub:List UInt8) (p n:Nat) (z:SkZ) (hx:x.ok) (ho0:x.o=nilP) (hr0:x.r=nilP) (hst:x.st=vP z.1 0) (hown:x.own=s++q) (ls:s.length=32) (lq:q.length=32) (hpub:pub.length=32) (hn:n<8) (hc0:comE (comB s pub)=0) (hE:MapOf z.2.2.1 (mapE [])) (w:World) (H:St S w0 (.blk bt 143 (seC x)::(SkO [] z++R)) w) :
 Calls Tryz.prog 77 #[vP bt 0,.agg (headC pub p n).toArray] w fun e w'=>∃ (bl bh:Nat) (o':Obj) (A':Option Addr) (c':Nat),e=.returned (.tuple #[.agg (bys (msgK (chainN (chainN0 x.root (comB s pub)) n))).toArray,vN 0])∧MapOf o' (mapE (skL pub (chainN0 x.root (comB s pub)) n))∧St S w0 ([.blk bt 143 (seC (metS x (comB s pub) (vP bl 0) (vP bh 0))),.blk bl 153 (liC (chainN (chainN0 x.root (comB s pub)) (n+1)) (n+1)),.blk bh 35 (headC pub p n)]++(SkR z.1 z.2.1 o' A' c' (skL pub (chainN0 x.root (comB s pub)) n)++R)) w':=by
 obtain ⟨bz,mz,oz,Az,cz⟩:=z
 dsimp only at hst hE ⊢
 have hmt:=fun (R:List Res) w1 H1=>meet13_calls (S:=S) (w0:=w0) (R:=R) bt x s q pub p n hx hr0 hown ls lq hpub hc0 w1 H1
 obtain ⟨cm,hcm⟩:∃ c,comB s pub=c:=⟨_,rfl⟩
 rw [hcm] at hmt ⊢
 have l4:(chainN0 x.root cm).length=32:=keyP_length ..
 have hx1:=fun b d=>metS_ok hx cm b d
 obtain ⟨c0,hc0'⟩:∃ c,chainN0 x.root cm=c:=⟨_,rfl⟩
 rw [hc0'] at hmt l4 ⊢
 have hsk:=fun (R:List Res) (bl bo:Nat) (o:Obj) (A:Option Addr) (c:Nat) hE w1 H1=>skip13_calls (S:=S) (w0:=w0) (R:=R) bt bl bo 35 (headC pub p n) (metS x cm (vP bl 0) (vP bo 0)) c0 pub n (bz,mz,o,A,c) (hx1 bl bo) (metS_r ..) (metS_o ..) ((metS_st ..).trans hst) l4 hpub (headC_f hpub p n).1 hn hE w1 H1
 simp only [metS_set] at hsk
 have lcn:=chainN_length c0 l4 n
 have lmk:=msgK_length (chainN c0 n)
 have lnk:(nextK (chainN c0 n)).length=32:=keyP_length ..
 have hsc:∀ w,Calls Tryz.prog 70 #[.agg (bys (chainN c0 n)).toArray] w fun e w'=>e=.returned (.tuple #[.agg (bys (msgK (chainN c0 n))).toArray,.agg (bys (nextK (chainN c0 n))).toArray])∧Kept [] w w':=fun w=>step_calls _ lcn w
 rw [chainN_succ]
 obtain ⟨gh,_,gn⟩:=headC_f hpub p n
 have lhd:(headC pub (p:Int) (n:Int)).length=34:=headC_length hpub _ _
 have lbo:(bys pub).length=32:=by rw [bys_length];exact hpub
 have hf:=seC1_f hx
 have hxl:=hf.len
 have hg2:=hf.g2
 rw [ho0] at hg2
 have hg7:=hf.g7
 rw [hst] at hg7
 have lbz:(bys zKey).length=32:=by rw [bys_length,zKey_length]
 refine enter (n:=96) (R:=fun e L=>∃ (bl bh:Nat) (o':Obj) (A':Option Addr) (c':Nat),e=.returned (.tuple #[.agg (bys (msgK (chainN c0 n))).toArray,vN 0])∧MapOf o' (mapE (skL pub c0 n))∧∀ w',St S w0 L w'→St S w0 ([.blk bt 143 (seC (metS x cm (vP bl 0) (vP bh 0))),.blk bl 153 (liC (nextK (chainN c0 n)) (n+1)),.blk bh 35 (headC pub p n)]++(SkR bz mz o' A' c' (skL pub c0 n)++R)) w') [vP bt 0,.agg (headC pub p n).toArray] F77 rfl rfl rfl H ?_ (fun e w' L' h H=>by obtain ⟨bl,bh,o',A',c',h1,h2,h3⟩:=h;exact ⟨bl,bh,o',A',c',h1,h2,h3 w' H⟩)
 refine VC_seq<|VC_region<|l_boxA rfl rfl<|fun b3=>l_allocA zr33 rfl<|fun b4=>vl_v (q_assign rfl) rfl<|vl_nil<|th_n<|VC_seq<|VC_seq<|VC_frame (X:=[_,_,_,_,_,_]) (fun w9 H9=>?_)
 refine VC_drawQ 14 6 [[],[0],[1],[2],[],[4],[],[6],[3,5,7],[8],[9],[9],[],[12,10,8,0,1,2,3,4,5,6,7,9],[11,13,0,1,2,3,4,5,6,7,8,9,10,12]] [[],[0],[0,1],[0,1,2],[],[4],[],[6],[0,1,2,3,4,5,6,7],[0,1,2,3,4,5,6,7,8],[0,1,2,3,4,5,6,7,8,9],[0,1,2,3,4,5,6,7,8,9],[],[0,1,2,3,4,5,6,7,8,9,10,12],[0,1,2,3,4,5,6,7,8,9,10,11,12,13]] [([],[],[],[0,1,2,3,4,5],[]),([0],[],[],[0,1,2,3,4,5],[0]),([0,1],[],[],[0,1,2,3,4,5],[0,1]),([0,1,2],[],[],[0,1,2,3,4,5],[0,1,2]),([],[],[],[0,1,2,3,4,5],[]),([4],[],[],[0,1,2,3,4,5],[4]),([],[],[],[0,1,2,3,4,5],[]),([6],[],[],[0,1,2,3,4,5],[6]),([0,1,2,3,4,5,6,7],[3,4,5],[],[0,1,2],[0,1,2,3,4,5,6,7]),([0,1,2,3,4,5,6,7,8],[],[],[0,1,2],[0,1,2,3,4,5,6,7,8]),([0,1,2,3,4,5,6,7,8,9],[],[],[0,1,2],[0,1,2,3,4,5,6,7,8,9]),([0,1,2,3,4,5,6,7,8,9],[],[],[0,1,2],[0,1,2,3,4,5,6,7,8,9]),([],[],[],[0,1,2],[]),([0,1,2,3,4,5,6,7,8,9,10,12],[],[12],[0,1,2],[0,1,2,3,4,5,6,7,8,9,10])] [0,1,2] [0,1,2,3,4,5,6,7,8,9,10,11,13] rfl rfl (by kernel_rfl)<|qp_v (fun xs gs hx=>q_move rfl)<|qp_v (fun xs gs hx=>q_nilck rfl)<|qp_v (fun xs gs hx=>q_fldA fo143_7 (by decide) rfl rfl)<|qp_v (fun xs gs hx=>q_load 2 U139 rfl rfl rfl hg7)<|qp_v (fun xs gs hx=>q_fldA fo35_0 (by decide) rfl rfl)<|qp_v (fun xs gs hx=>q_loadsAt 1 U33 rfl rfl rfl sz33 gh lbo)<|qp_v (fun xs gs hx=>q_fldA fo35_2 (by decide) rfl rfl)<|qp_v (fun xs gs hx=>q_load 1 U3 rfl rfl rfl gn) ?_
 refine qp_callE (fun xs gs v g=>v=.tuple #[.agg (bys zKey).toArray,.bool false]∧MapOf (decS [] g).1 (mapE [])) (fun xs gs v g=>SkR bz mz (decS [] g).1 (decS [] g).2.1 (decS [] g).2.2 []) F97 rfl rfl (args:=fun xs gs=>[vP bz 0,.agg (bys pub).toArray,vN n]) (fun xs gs hx=>rfl) (fun xs gs hx R w1 H1=>(sktake0_calls hpub (by omega) hE H1).mono fun e w' h=>(by obtain ⟨h1,o9,A9,c9,h2,h3⟩:=h;obtain ⟨g9,hg9⟩:=sk_ghost (A:=A9) (c:=c9) h2;have hg9:decS [] g9=(o9,A9,c9):=hg9;refine ⟨_,g9,h1,(by intro h;cases h),⟨rfl,?_⟩,?_⟩;rw [hg9];exact h2;rw [hg9];exact h3)) ?_
 refine qp_v (fun xs gs hx=>q_move rfl)<|qp_v (f:=fun _ _=>.agg (bys zKey).toArray) (fun xs gs hx=>?_) ?_
 ·obtain ⟨e9,_⟩:=hx.1 rfl
  exact q_ext (vs:=#[.agg (bys zKey).toArray,.bool false]) (congrArg some e9) rfl
 refine qp_v (f:=fun _ _=>.bool false) (fun xs gs hx=>?_) ?_
 ·obtain ⟨e9,_⟩:=hx.1 rfl
  exact q_ext (vs:=#[.agg (bys zKey).toArray,.bool false]) (congrArg some e9) rfl
 refine qp_a (fun xs gs hx=>q_alloc zr33 rfl) ?_
 refine qp_storeN (fun xs gs hx=>rfl) (fun xs gs hx=>hx.2.1 rfl) (fun xs gs hx=>rfl) (fun xs gs hx=>List.append_nil _) sz33 (fun xs gs hx=>by first | with_reducible assumption | omega | rfl) (fun xs gs hx=>by first | (with_reducible first | exact bys_one _ | exact u32s_one _ | exact u64s_one _ | exact i64s_one _ | exact n64s_one _ | assumption) | exact bys_one _ | exact u32s_one _ | exact u64s_one _ | exact i64s_one _ | exact one_all rfl | (refine app_one ?_ ?_<;>first | exact bys_one _ | exact one_all rfl | (simp;done))) (fun xs gs hx=>by first | with_reducible assumption | omega | rfl) ?_
 refine qp_end<|fun xs gs hx=>?_
 obtain ⟨f21,⟨b6,e6⟩,_,_⟩:=hx
 simp only [selI,ownsA,List.contains_cons,List.contains_nil,Nat.reduceBEq,Nat.reduceAdd,Bool.or_false,Bool.or_true,Bool.false_or,Bool.true_or,mask,nRow,nBlk,nRowT,tupAt_0,tupAt_1,List.append_assoc,List.nil_append,List.append_nil,List.cons_append,List.singleton_append,e6]
 obtain ⟨e21,f21⟩:=f21
 simp only [e21]
 obtain ⟨z1,hz1⟩:∃ z,decS [] (gs 8)=z:=⟨_,rfl⟩
 rw [hz1] at f21 ⊢
 obtain ⟨o1,A1,c1⟩:=z1
 dsimp only at f21 ⊢
 simp only [SkR,List.cons_append,List.nil_append,List.append_nil]
 refine VL.keep (kp [0,1,3,4,5,23,6] rfl)<|vl_v (q_assign rfl) rfl<|vl_nil<|qn_n<|th_n<|VC_seq<|VC_region<|vl_v (q_move rfl) rfl<|vl_nil<|th_n<|VC_no (rfl)<|VC_skip<|th_n ?_
 refine VC_seq<|VC_seq<|VC_drawV 14 [[],[0],[1],[2],[3],[4],[5],[6,5],[7,5],[8,5],[9,5],[10,5],[5],[12,5],[11,13,5],[5,14]] [[],[0],[0,1],[0,1,2],[0,1,2,3],[0,1,2,3,4],[0,1,2,3,4,5],[0,1,2,3,4,5,6],[0,1,2,3,4,5,6,7],[0,1,2,3,4,5,6,7,8],[0,1,2,3,4,5,6,7,8,9],[0,1,2,3,4,5,6,7,8,9,10],[0,1,2,3,4,5],[0,1,2,3,4,5,12],[0,1,2,3,4,5,6,7,8,9,10,11,12,13],[0,1,2,3,4,5,6,7,8,9,10,11,12,13,14]] rfl (by kernel_rfl)<|qv_v (q_move rfl)<|qv_v (q_nilck rfl)<|qv_v (q_fldA fo143_2 (by decide) rfl rfl)<|qv_v (q_load 2 U138 rfl rfl rfl hg2)<|qv_v (q_eqNN U138 rfl rfl)<|qv_v (q_move rfl)<|qv_skip rfl<|qv_skip rfl<|qv_skip rfl ?_
 refine qv_skip rfl<|qv_skip rfl<|qv_skip rfl<|qv_skip rfl<|qv_skip rfl<|qv_end<|VL.keep (kp [0,1,3,4,5,6,7,24,31,37,39] rfl)<|vl_skip rfl rfl<|vl_v (q_pickT rfl rfl) rfl<|vl_nil<|qn_n<|th_n<|VC_yes (rfl) ?_
 refine VC_seq<|VC_region<|vl_v (q_move rfl) rfl<|vl_v (q_loads 1 U35 rfl rfl rfl sz35 (by with_reducible assumption)) rfl<|l_call (F:=fun v L'=>∃ bl bh:Nat,v=vN 0∧L'=[.blk bt 143 (seC (metS x cm (vP bl 0) (vP bh 0))),.blk bl 153 (liC c0 0),.blk bh 35 (headC pub p n)]++(SkO [] (bz,mz,o1,A1,c1)++([Res.blk b4 33 (bys (List.replicate 32 0)),Res.blk b3 35 (headC pub p n),Res.blk b6 33 (bys zKey)]++R))) F98 rfl rfl rfl (fun w1 H1=>(hmt (SkO [] (bz,mz,o1,A1,c1)++([Res.blk b4 33 (bys (List.replicate 32 0)),Res.blk b3 35 (headC pub p n),Res.blk b6 33 (bys zKey)]++R)) w1 (St.pickR (M:=.blk bt 143 (seC x)::(SkO [] (bz,mz,o1,A1,c1)++[Res.blk b4 33 (bys (List.replicate 32 0)),Res.blk b3 35 (headC pub p n),Res.blk b6 33 (bys zKey)])) (R:=R) 7 H1 (ks:=[2,3,4,5,0,1,6]) (by decide) (by decide) rfl rfl)).mono fun e w' h=>?_) rfl ?_
 ·obtain ⟨bl,bh,h1,h2⟩:=h
  exact ⟨_,_,h1,⟨bl,bh,rfl,rfl⟩,h2⟩
 rintro v L' ⟨bl,bh,rfl,rfl⟩
 simp only [SkO,SkR,List.cons_append,List.nil_append]
 have hfm:=seC1_f (hx1 bl bh)
 have hm5:(seC (metS x cm (vP bl 0) (vP bh 0)))[99]?=some (vP bl 0):=hfm.g5.trans (congrArg some (metS_r ..))
 have hl0:=(liC_f (m:=0) l4).2.2
 refine vl_v (q_assign rfl) rfl<|vl_nil<|th_n<|VC_seq<|VC_region<|vl_v (q_move rfl) rfl<|vl_v (q_as (v:=.bool false) (q_neq_k U29 rfl rfl) (by simp)) rfl<|vl_nil<|th_n<|VC_no (rfl)<|VC_skip<|th_n ?_
 refine VC_seq<|VC_seq<|VC_drawV 15 [[],[0],[1],[2],[3],[4],[5],[6,5],[5],[8,5],[9,5],[10,5],[11,5],[12,5],[13,5],[7,14,5],[5,15]] [[],[0],[0,1],[0,1,2],[0,1,2,3],[0,1,2,3,4],[0,1,2,3,4,5],[0,1,2,3,4,5,6],[0,1,2,3,4,5],[0,1,2,3,4,5,8],[0,1,2,3,4,5,8,9],[0,1,2,3,4,5,8,9,10],[0,1,2,3,4,5,8,9,10,11],[0,1,2,3,4,5,8,9,10,11,12],[0,1,2,3,4,5,8,9,10,11,12,13],[0,1,2,3,4,5,6,7,8,9,10,11,12,13,14],[0,1,2,3,4,5,6,7,8,9,10,11,12,13,14,15]] rfl (by kernel_rfl)<|qv_v (q_move rfl)<|qv_v (q_nilck rfl)<|qv_v (q_fldA fo143_5 (by decide) rfl rfl)<|qv_v (q_load 0 U141 rfl rfl rfl hm5)<|qv_v (q_eqPN U141 rfl rfl)<|qv_v (q_move rfl)<|qv_vg (rfl) (q_fldA fo35_2 (by decide) rfl rfl)<|qv_vg (rfl) (q_load 7 U3 rfl rfl rfl gn)<|qv_vg (rfl) (q_move rfl) ?_
 refine qv_vg (rfl) (q_nilck rfl)<|qv_vg (rfl) (q_fldA fo143_5 (by decide) rfl rfl)<|qv_vg (rfl) (q_load 0 U141 rfl rfl rfl hm5)<|qv_vg (rfl) (q_nilck rfl)<|qv_vg (rfl) (q_fldA fo153_1 (by decide) rfl rfl)<|qv_vg (rfl) (q_load 1 U3 rfl rfl rfl hl0)<|qv_end<|VL.keep (kp [0,1,3,4,5,6,7,24,41,8,46,54,56,63] rfl)<|vl_vg rfl (q_as (v:=.bool false) (q_lss_n U3 rfl rfl) (by simp)) rfl<|vl_v (q_pickF rfl rfl) rfl<|vl_nil<|qn_n<|th_n ?_
 refine VC_no (rfl)<|VC_skip<|th_n<|VC_seq<|VC_seq<|VC_region<|vl_v (q_move rfl) rfl<|vl_v (q_fldA fo35_2 (by decide) rfl rfl) rfl<|vl_v (q_load 7 U3 rfl rfl rfl gn) rfl<|l_call (F:=fun v L'=>∃ (bl':Nat) (o':Obj) (A':Option Addr) (c':Nat),v=vN 0∧MapOf o' (mapE (skL pub c0 n))∧L'=[.blk bt 143 (seC (metS x cm (vP bl' 0) (vP bh 0))),.blk bl' 153 (liC (chainN c0 n) n),.blk bh 35 (headC pub p n)]++(SkR bz mz o' A' c' (skL pub c0 n)++([Res.blk b4 33 (bys (List.replicate 32 0)),Res.blk b3 35 (headC pub p n),Res.blk b6 33 (bys zKey)]++R))) F99 rfl rfl rfl (fun w1 H1=>(hsk ([Res.blk b4 33 (bys (List.replicate 32 0)),Res.blk b3 35 (headC pub p n),Res.blk b6 33 (bys zKey)]++R) bl bh o1 A1 c1 f21 w1 H1).mono fun e w' h=>?_) rfl ?_
 ·obtain ⟨bl',o',A',c',h1,h2,h3⟩:=h
  exact ⟨_,_,h1,⟨bl',o',A',c',rfl,h2,rfl⟩,h3⟩
 rintro v L' ⟨bl1,o2,A2,c2,rfl,hE2,rfl⟩
 simp only [SkR,List.cons_append,List.nil_append]
 have hfk:=seC1_f (hx1 bl1 bh)
 have hk5:(seC (metS x cm (vP bl1 0) (vP bh 0)))[99]?=some (vP bl1 0):=hfk.g5.trans (congrArg some (metS_r ..))
 obtain ⟨_,hln,_⟩:=liC_f (m:=n) lcn
 have lbn:(bys (chainN c0 n)).length=32:=by rw [bys_length];exact lcn
 have lbm:(bys (msgK (chainN c0 n))).length=32:=by rw [bys_length];exact lmk
 have lbx:(bys (nextK (chainN c0 n))).length=32:=by rw [bys_length];exact lnk
 refine vl_v (q_assign rfl) rfl<|vl_nil<|th_n<|VC_seq<|VC_region<|vl_v (q_move rfl) rfl<|vl_v (q_as (v:=.bool false) (q_neq_k U29 rfl rfl) (by simp)) rfl<|vl_nil<|th_n<|VC_no (rfl)<|VC_skip<|th_n ?_
 refine VC_seq<|VC_region<|vl_v (q_move rfl) rfl<|vl_v (q_nilck rfl) rfl<|vl_v (q_fldA fo143_5 (by decide) rfl rfl) rfl<|vl_v (q_load 0 U141 rfl rfl rfl hk5) rfl<|vl_v (q_nilck rfl) rfl<|vl_v (q_fldA fo153_0 (by decide) rfl rfl) rfl<|vl_v (q_loadsAt 1 U33 rfl rfl rfl sz33 hln lbn) rfl<|vl_v (q_callV F70 rfl rfl rfl (fun w1 H1=>hsc w1)) rfl<|vl_v (q_move rfl) rfl<|vl_v (q_ext rfl rfl) rfl ?_
 refine vl_v (q_ext rfl rfl) rfl<|l_allocA zr33 rfl<|fun b10=>l_allocA zr33 rfl<|fun b11=>l_storeA 1 rfl rfl rfl sz33 (by with_reducible assumption) (by with_reducible first | exact bys_one _ | exact u32s_one _ | exact u64s_one _ | exact i64s_one _ | exact n64s_one _ | assumption) (by rfl) ?_
 simp only [List.set_cons_zero,List.set_cons_succ]
 refine l_storeA 0 rfl rfl rfl sz33 (by with_reducible assumption) (by with_reducible first | exact bys_one _ | exact u32s_one _ | exact u64s_one _ | exact i64s_one _ | exact n64s_one _ | assumption) (by rfl) ?_
 simp only [List.set_cons_zero,List.set_cons_succ]
 refine vl_nil<|th_n<|VC_seq<|VC_region<|vl_v (q_move rfl) rfl<|vl_v (q_loads 0 U33 rfl rfl rfl sz33 (by with_reducible assumption)) rfl<|vl_v (q_fldA fo35_2 (by decide) rfl rfl) rfl<|vl_v (q_load 9 U3 rfl rfl rfl gn) rfl<|vl_v (q_add_n (q:=1) rfl rfl (by omega)) rfl<|vl_v (q_build (c':=liC (nextK (chainN c0 n)) (n+1)) rfl (built_li2 lnk)) rfl<|l_boxA rfl rfl<|fun b92=>vl_v (q_nilck rfl) rfl ?_
 refine vl_v (q_fldA fo143_5 (by decide) rfl rfl) rfl<|l_store1 3 rfl rfl rfl sz141 rfl (by rw [hfk.len];simp) ?_
 simp only [List.set_cons_zero,List.set_cons_succ]
 rw [hfk.w5,List.append_nil,metS_set]
 refine vl_nil<|th_n<|VC_seq<|VC_region<|vl_v (q_loads 2 U33 rfl rfl rfl sz33 (by with_reducible assumption)) rfl<|l_storeA 9 rfl rfl rfl sz33 (by with_reducible assumption) (by with_reducible first | exact bys_one _ | exact u32s_one _ | exact u64s_one _ | exact i64s_one _ | exact n64s_one _ | assumption) (by rfl) ?_
 simp only [List.set_cons_zero,List.set_cons_succ]
 refine vl_v (q_assign rfl) rfl<|vl_nil<|th_n<|VC_ret<|⟨_,resC2 9 rfl U33 rfl rfl rfl sz33 (by with_reducible assumption) rfl,?_⟩
 exact ⟨b92,bh,o2,A2,c2,rfl,hE2,fun w' H=>St.pickR (R:=R) 12 H (ks:=[3,0,5,6,7,8]) (by decide) (by decide) rfl rfl⟩
theorem messageB_calls {S:List Nat} {w0:World} {R:List Res} {L:List Ent} (bt:Nat) (x:SeD) (pub k:List UInt8) (p n:Nat) (z:SkZ) (hx:x.ok) (hst:x.st=vP z.1 0) (hpub:pub.length=32) (hk:k.length=32) (hn:n≤1000) (hl:L.length≤100) (hG:GoodL (L++[⟨pub,(n:Int),k⟩])) (hE:MapOf z.2.2.1 (mapE (L++[⟨pub,(n:Int),k⟩]))) (w:World) (H:St S w0 (.blk bt 143 (seC x)::(SkO (L++[⟨pub,(n:Int),k⟩]) z++R)) w) :
 Calls Tryz.prog 77 #[vP bt 0,.agg (headC pub p n).toArray] w fun e w'=>∃ (o':Obj) (A':Option Addr) (c':Nat),e=.returned (.tuple #[.agg (bys k).toArray,vN 0])∧MapOf o' (mapE L)∧St S w0 (.blk bt 143 (seC x)::(SkR z.1 z.2.1 o' A' c' L++R)) w':=by
 obtain ⟨bz,mz,oz,Az,cz⟩:=z
 dsimp only at hst hE ⊢
 obtain ⟨M,hM⟩:∃ M,L++[(⟨pub,(n:Int),k⟩:Ent)]=M:=⟨_,rfl⟩
 have htk:=fun (R:List Res) (S':List Nat) (w0:World) w1 H1=>sktake1_calls (S:=S') (w0:=w0) (w1:=w1) (R:=R) (b:=bz) (m:=mz) (o:=oz) (A:=Az) (c:=cz) (pub:=pub) (n:=n) (L:=L) (k:=k) hG hl hE H1
 rw [hM] at hG hE H htk
 obtain ⟨gh,_,gn⟩:=headC_f hpub p n
 have lhd:(headC pub (p:Int) (n:Int)).length=34:=headC_length hpub _ _
 have lbo:(bys pub).length=32:=by rw [bys_length];exact hpub
 have lbk:(bys k).length=32:=by rw [bys_length];exact hk
 have hf:=seC1_f hx
 have hg7:=hf.g7
 rw [hst] at hg7
 refine enter (n:=96) (R:=fun e L'=>∃ (o':Obj) (A':Option Addr) (c':Nat),e=.returned (.tuple #[.agg (bys k).toArray,vN 0])∧MapOf o' (mapE L)∧∀ w',St S w0 L' w'→St S w0 (.blk bt 143 (seC x)::(SkR bz mz o' A' c' L++R)) w') [vP bt 0,.agg (headC pub p n).toArray] F77 rfl rfl rfl H ?_ (fun e w' L' h H=>by obtain ⟨o',A',c',h1,h2,h3⟩:=h;exact ⟨o',A',c',h1,h2,h3 w' H⟩)
 refine VC_seq<|VC_region<|l_boxA rfl rfl<|fun b3=>l_allocA zr33 rfl<|fun b4=>vl_v (q_assign rfl) rfl<|vl_nil<|th_n<|VC_seq<|VC_seq<|VC_frame (X:=[_,_,_,_,_,_]) (fun w9 H9=>?_)
 refine VC_drawQ 14 6 [[],[0],[1],[2],[],[4],[],[6],[3,5,7],[8],[9],[9],[],[12,10,8,0,1,2,3,4,5,6,7,9],[11,13,0,1,2,3,4,5,6,7,8,9,10,12]] [[],[0],[0,1],[0,1,2],[],[4],[],[6],[0,1,2,3,4,5,6,7],[0,1,2,3,4,5,6,7,8],[0,1,2,3,4,5,6,7,8,9],[0,1,2,3,4,5,6,7,8,9],[],[0,1,2,3,4,5,6,7,8,9,10,12],[0,1,2,3,4,5,6,7,8,9,10,11,12,13]] [([],[],[],[0,1,2,3,4,5],[]),([0],[],[],[0,1,2,3,4,5],[0]),([0,1],[],[],[0,1,2,3,4,5],[0,1]),([0,1,2],[],[],[0,1,2,3,4,5],[0,1,2]),([],[],[],[0,1,2,3,4,5],[]),([4],[],[],[0,1,2,3,4,5],[4]),([],[],[],[0,1,2,3,4,5],[]),([6],[],[],[0,1,2,3,4,5],[6]),([0,1,2,3,4,5,6,7],[3,4,5],[],[0,1,2],[0,1,2,3,4,5,6,7]),([0,1,2,3,4,5,6,7,8],[],[],[0,1,2],[0,1,2,3,4,5,6,7,8]),([0,1,2,3,4,5,6,7,8,9],[],[],[0,1,2],[0,1,2,3,4,5,6,7,8,9]),([0,1,2,3,4,5,6,7,8,9],[],[],[0,1,2],[0,1,2,3,4,5,6,7,8,9]),([],[],[],[0,1,2],[]),([0,1,2,3,4,5,6,7,8,9,10,12],[],[12],[0,1,2],[0,1,2,3,4,5,6,7,8,9,10])] [0,1,2] [0,1,2,3,4,5,6,7,8,9,10,11,13] rfl rfl (by kernel_rfl)<|qp_v (fun xs gs hx=>q_move rfl)<|qp_v (fun xs gs hx=>q_nilck rfl)<|qp_v (fun xs gs hx=>q_fldA fo143_7 (by decide) rfl rfl)<|qp_v (fun xs gs hx=>q_load 2 U139 rfl rfl rfl hg7)<|qp_v (fun xs gs hx=>q_fldA fo35_0 (by decide) rfl rfl)<|qp_v (fun xs gs hx=>q_loadsAt 1 U33 rfl rfl rfl sz33 gh lbo)<|qp_v (fun xs gs hx=>q_fldA fo35_2 (by decide) rfl rfl)<|qp_v (fun xs gs hx=>q_load 1 U3 rfl rfl rfl gn) ?_
 refine qp_callE (fun xs gs v g=>v=.tuple #[.agg (bys k).toArray,.bool true]∧MapOf (decS L g).1 (mapE L)) (fun xs gs v g=>SkR bz mz (decS L g).1 (decS L g).2.1 (decS L g).2.2 L) F97 rfl rfl (args:=fun xs gs=>[vP bz 0,.agg (bys pub).toArray,vN n]) (fun xs gs hx=>rfl) (fun xs gs hx R w1 H1=>(htk _ _ _ w1 H1).mono fun e w' h=>(by obtain ⟨h1,o9,A9,c9,h2,h3⟩:=h;obtain ⟨g9,hg9⟩:=sk_ghost (A:=A9) (c:=c9) h2;have hg9:decS L g9=(o9,A9,c9):=hg9;refine ⟨_,g9,h1,(by intro h;cases h),⟨rfl,?_⟩,?_⟩;rw [hg9];exact h2;rw [hg9];exact h3)) ?_
 refine qp_v (fun xs gs hx=>q_move rfl)<|qp_v (f:=fun _ _=>.agg (bys k).toArray) (fun xs gs hx=>?_) ?_
 ·obtain ⟨e9,_⟩:=hx.1 rfl
  exact q_ext (vs:=#[.agg (bys k).toArray,.bool true]) (congrArg some e9) rfl
 refine qp_v (f:=fun _ _=>.bool true) (fun xs gs hx=>?_) ?_
 ·obtain ⟨e9,_⟩:=hx.1 rfl
  exact q_ext (vs:=#[.agg (bys k).toArray,.bool true]) (congrArg some e9) rfl
 refine qp_a (fun xs gs hx=>q_alloc zr33 rfl) ?_
 refine qp_storeN (fun xs gs hx=>rfl) (fun xs gs hx=>hx.2.1 rfl) (fun xs gs hx=>rfl) (fun xs gs hx=>List.append_nil _) sz33 (fun xs gs hx=>by first | with_reducible assumption | omega | rfl) (fun xs gs hx=>by first | (with_reducible first | exact bys_one _ | exact u32s_one _ | exact u64s_one _ | exact i64s_one _ | exact n64s_one _ | assumption) | exact bys_one _ | exact u32s_one _ | exact u64s_one _ | exact i64s_one _ | exact one_all rfl | (refine app_one ?_ ?_<;>first | exact bys_one _ | exact one_all rfl | (simp;done))) (fun xs gs hx=>by first | with_reducible assumption | omega | rfl) ?_
 refine qp_end<|fun xs gs hx=>?_
 obtain ⟨f21,⟨b6,e6⟩,_,_⟩:=hx
 simp only [selI,ownsA,List.contains_cons,List.contains_nil,Nat.reduceBEq,Nat.reduceAdd,Bool.or_false,Bool.or_true,Bool.false_or,Bool.true_or,mask,nRow,nBlk,nRowT,tupAt_0,tupAt_1,List.append_assoc,List.nil_append,List.append_nil,List.cons_append,List.singleton_append,e6]
 obtain ⟨e21,f21⟩:=f21
 simp only [e21]
 obtain ⟨z1,hz1⟩:∃ z,decS L (gs 8)=z:=⟨_,rfl⟩
 rw [hz1] at f21 ⊢
 obtain ⟨o1,A1,c1⟩:=z1
 dsimp only at f21 ⊢
 simp only [SkR,List.cons_append,List.nil_append,List.append_nil]
 refine VL.keep (kp [0,1,3,4,5,23,6] rfl)<|vl_v (q_assign rfl) rfl<|vl_nil<|qn_n<|th_n<|VC_seq<|VC_region<|vl_v (q_move rfl) rfl<|vl_nil<|th_n<|VC_yes (rfl)<|VC_seq<|VC_region ?_
 simp only [List.cons_append,List.nil_append]
 refine vl_v (q_loads 6 U33 rfl rfl rfl sz33 (by with_reducible assumption)) rfl<|l_storeA 0 rfl rfl rfl sz33 (by with_reducible assumption) (by with_reducible first | exact bys_one _ | exact u32s_one _ | exact u64s_one _ | exact i64s_one _ | exact n64s_one _ | assumption) (by rfl) ?_
 simp only [List.set_cons_zero,List.set_cons_succ]
 refine vl_v (q_assign rfl) rfl<|vl_nil<|th_n<|VC_ret<|th_r<|⟨_,resC2 0 rfl U33 rfl rfl rfl sz33 (by with_reducible assumption) rfl,?_⟩
 exact ⟨o1,A1,c1,rfl,f21,fun w' H=>St.pickR (R:=R) 7 H (ks:=[2,3,4,5]) (by decide) (by decide) rfl rfl⟩
theorem open_close (k b t:List UInt8) (hk:k.length=32) (B C:Option Addr) (lb lc cb cc:Nat) (hlb:lb=b.length) (hlc:lc=t.length+32) (hb:b.length≤10000) (ht:t.length≤9000) (w:World) (hB:SlAt w B (bys b)) (hC:SlAt w C (bys (closeW k b t))) (hcb:lb≤cb) (hcc:lc≤cc) :
 Calls Tryz.prog 78 #[.agg (bys k).toArray,.slice B lb cb,.slice C lc cc] w fun e w'=>∃ v,e=.returned (.tuple #[v,.int .i64 0])∧St [] w [.row 5 1 v t.length (bys t)] w':=by
 have hl:=closeW_length k b t
 have htk:(closeW k b t).take t.length=turnW k t:=by rw [closeW,List.take_left' (turnW_length k t)]
 have hdr:(closeW k b t).drop t.length=markW k b (turnW k t):=by rw [closeW,List.drop_left' (turnW_length k t)]
 have hu:turnB (keyP k tTurn) n12 0 ((closeW k b t).take t.length)=t:=by rw [htk];exact turn_twice ..
 have hm:macB (keyP k tTag) (joinB [k,b,(closeW k b t).take t.length])=markW k b (turnW k t):=by rw [htk];rfl
 have hL:(closeW k b t).length≤10000:=by omega
 clear htk
 obtain ⟨c,hc⟩:∃ c,closeW k b t=c:=⟨_,rfl⟩
 obtain ⟨m,hm'⟩:∃ m,markW k b (turnW k t)=m:=⟨_,rfl⟩
 rw [hc] at hl hdr hu hm hL hC
 rw [hm'] at hdr hm
 exact open5_good k b c m _ _ t m t.length rfl rfl hu hm hk B C lb lc cb cc hl hdr hlb (by omega) hb hL rfl w hB hC hcb hcc
theorem copyz_calls {L:List Ent} (z:SkZ) (hE:MapOf z.2.2.1 (mapE L)) (hG:GoodL L) (hl:L.length≤1000) (w:World) (hS:∀ r∈SkO L z,r.ok w) :
 Calls Tryz.prog 76 #[vP z.1 0] w fun e w'=>∃ z':SkZ,e=.returned (vP z'.1 0)∧MapOf z'.2.2.1 (mapE L)∧St [] w (SkO L z') w':=by
 obtain ⟨b,m,o,A,c⟩:=z
 have h1:Res.ok w (.blk b 170 [.map (some m),.slice A L.length c]):=hS _ (by simp [SkO,SkR])
 have h2:Res.ok w (.obj m o):=hS _ (by simp [SkO,SkR])
 have h3:Res.ok w (.row 189 33 (.slice A L.length c) L.length (ordC L)):=hS _ (by simp [SkO,SkR])
 exact (copy_calls b m o A c L hE hG hl w (Blk.sl0 h1) h2 (Row.sl h3)).mono fun e w' ⟨b',m',h4,o',A',c',h5,h6⟩=>⟨(b',m',o',A',c'),h4,h5,by rw [List.append_nil] at h6;exact h6⟩
theorem mvK {S:List Nat} {w0 w:World} {X K R Z:List Res} (H:St S w0 ((X++(K++R))++Z) w):St S w0 (X++(Z++R)) w:=by
 have h2:=(H.perm (mvZ X (K++R) Z)).sub (List.Sublist.append (List.Sublist.refl (X++Z)) (List.sublist_append_right K R))
 rwa [List.append_assoc] at h2
theorem mvM (N K Y R:List Res):(N++(K++(Y++R))).Perm (Y++(N++(K++R))) :=
 (List.Perm.append_left N (List.perm_append_comm_assoc K Y R)).trans (List.perm_append_comm_assoc N Y (K++R))
theorem recv_calls {S:List Nat} {w0:World} {R:List Res} {L L':List Ent} (Q:SeD→List Res→SkZ→Prop) (bs:Nat) (x:SeD) (mo:List Value) (pub b l k:List UInt8) (p n:Nat) (z:SkZ) (B C:Option Addr) (lb cb lc cc:Nat) (hx:x.ok) (hst:x.st=vP z.1 0) (hpub:pub.length=32) (hk:k.length=32) (hp:p≤1000) (hn:n≤1000) (hE:MapOf z.2.2.1 (mapE L)) (hG:GoodL L) (hLl:L.length≤1000) (hlb:lb=b.length) (hcb:lb≤cb) (hb:b.length≤1000) (hlc:lc=l.length+32) (hcc:lc≤cc) (hl:l.length≤1000) (hB:Rest S w0 R B b) (hC:Rest S w0 R C (closeW k (asideB b pub p n) l))
 (hmsg:∀ (bt:Nat) (z1:SkZ) (R1:List Res) (w1:World),MapOf z1.2.2.1 (mapE L)→St S w0 (.blk bt 143 (seC { x with st:=vP z1.1 0 })::(SkO L z1++R1)) w1→Calls Tryz.prog 77 #[vP bt 0,.agg (headC pub p n).toArray] w1 fun e w'=>∃ (x':SeD) (N:List Res) (z':SkZ),e=.returned (.tuple #[.agg (bys k).toArray,vN 0])∧x'.ok∧Q x' N z'∧St S w0 (.blk bt 143 (seC x')::(N++(SkO L' z'++R1))) w')
 (w:World) (H:St S w0 (.blk bs 145 (seC x++mo)::(SkO L z++R)) w) :
 Calls Tryz.prog 40 #[vP bs 0,.slice B lb cb,.agg (headC pub p n).toArray,.slice C lc cc] w fun e w'=>∃ (x':SeD) (N:List Res) (z':SkZ) (v:Value),e=.returned (.tuple #[v,vN 0])∧x'.ok∧Q x' N z'∧St S w0 (.blk bs 145 (seC x'++mo)::.row 5 1 v l.length (bys l)::(N++(SkO L' z'++R))) w':=by
 subst hlb
 subst hlc
 have hbc:=fun w=>hbytes_ok pub p n hpub (by omega) (by omega) w
 have hac:=fun w1 h1=>aside_calls b pub p n B b.length cb rfl hcb hb hpub (by omega) (by omega) w1 h1
 have lj:=asideB_length b p n hpub
 obtain ⟨j,hj⟩:∃ j,asideB b pub p n=j:=⟨_,rfl⟩
 rw [hj] at hac lj hC
 have hoc:=fun (J:Option Addr) cj w1 h1 h2 (hcj:j.length≤cj)=>open_close k j l hk J C j.length (l.length+32) cj cc rfl rfl (by omega) (by omega) w1 h1 h2 hcj hcc
 obtain ⟨cl,hcl⟩:∃ c,closeW k j l=c:=⟨_,rfl⟩
 rw [hcl] at hoc hC
 have lbk:(bys k).length=32:=by rw [bys_length];exact hk
 have lhd:(headC pub (p:Int) (n:Int)).length=34:=headC_length hpub _ _
 have hf:=seC_f hx mo
 have hxl:=hf.len
 have lx:=seC_length hx
 have ox:=seC_one hx
 have hf1:=seC1_f hx
 have hg7:=hf1.g7
 rw [hst] at hg7
 refine enter (n:=57) (R:=fun e L1=>∃ (x':SeD) (N:List Res) (z':SkZ) (v:Value),e=.returned (.tuple #[v,vN 0])∧x'.ok∧Q x' N z'∧∀ w',St S w0 L1 w'→St S w0 (.blk bs 145 (seC x'++mo)::.row 5 1 v l.length (bys l)::(N++(SkO L' z'++R))) w') [vP bs 0,.slice B b.length cb,.agg (headC pub p n).toArray,.slice C (l.length+32) cc] F40 rfl rfl rfl H ?_ (fun e w' L1 h H=>by obtain ⟨x',N,z',v,h1,h2,h3,h4⟩:=h;exact ⟨x',N,z',v,h1,h2,h3,h4 w' H⟩)
 refine VC_seq<|VC_region<|l_boxA rfl rfl<|fun b6=>vl_v (q_assign rfl) rfl<|vl_v (q_assign rfl) rfl<|vl_nil<|th_n<|VC_seq<|VC_seq<|VC_region<|vl_v (q_loads 0 U35 rfl rfl rfl sz35 (by with_reducible assumption)) rfl<|l_callT F32 rfl rfl rfl (fun w1 H1=>hbc w1) rfl ?_
 intro A18 c18 hc18 hm18
 refine vl_v (q_move rfl) rfl<|vl_v (q_ext rfl rfl) rfl<|vl_v (q_ext rfl rfl) rfl<|vl_v (q_assign rfl) rfl<|vl_v (q_assign rfl) rfl<|vl_nil<|th_n<|VC_seq<|VC_region<|vl_v (q_move rfl) rfl<|vl_v (q_as (v:=.bool false) (q_neq_k U29 rfl rfl) (by simp)) rfl<|vl_nil ?_
 refine th_n<|VC_no (rfl)<|VC_skip<|th_n<|VC_seq<|VC_region<|vl_v (q_move rfl) rfl<|vl_v (q_nilck rfl) rfl<|vl_v (q_fldA fo145_0 (by decide) rfl rfl) rfl<|vl_v (q_loadsAt 2 U143 rfl rfl rfl sz143 hf.all lx) rfl<|l_allocA zr143 rfl<|fun b12=>l_storeA 0 rfl rfl rfl sz143 (by with_reducible assumption) (by with_reducible first | exact bys_one _ | exact u32s_one _ | exact u64s_one _ | exact i64s_one _ | exact n64s_one _ | assumption) (by rfl) ?_
 simp only [List.set_cons_zero,List.set_cons_succ]
 refine vl_nil<|th_n<|VC_seq<|VC_region<|vl_v (q_fldA fo143_7 (by decide) rfl rfl) rfl<|vl_v (q_load 0 U139 rfl rfl rfl hg7) rfl<|l_call (F:=fun v L1=>∃ z1:SkZ,v=vP z1.1 0∧MapOf z1.2.2.1 (mapE L)∧L1=[.blk b12 143 (seC x),.row 5 1 (.slice A18 40 c18) 40 (bys (headB pub p n)),.blk b6 35 (headC pub p n),.blk bs 145 (seC x++mo)]++(SkO L z1++R)) F76 rfl rfl rfl (fun w1 H1=>(copyz_calls z hE hG hLl w1 (fun r hr=>H1.ok r (List.mem_append_right [_,_,_,_] (List.mem_append_left _ hr)))).mono fun e w' h=>?_) rfl ?_
 ·obtain ⟨z1,h1,h2,h3⟩:=h
  exact ⟨_,_,h1,⟨z1,rfl,h2,rfl⟩,mvK (X:=[_,_,_,_]) (K:=SkO L z) (R:=R) (H1.join h3)⟩
 rintro v L1 ⟨z1,rfl,hE1,rfl⟩
 simp only [List.cons_append,List.nil_append]
 refine vl_v (q_fldA fo143_7 (by decide) rfl rfl) rfl<|l_store1 0 rfl rfl rfl sz139 rfl (by rw [lx];omega) ?_
 simp only [List.set_cons_zero]
 rw [hf1.w7,List.append_nil]
 refine vl_nil<|th_n<|VC_seq<|VC_region<|vl_v (q_loads 2 U35 rfl rfl rfl sz35 (by with_reducible assumption)) rfl<|l_call (F:=fun v L1=>∃ (x':SeD) (N:List Res) (z':SkZ),v=.tuple #[.agg (bys k).toArray,vN 0]∧x'.ok∧Q x' N z'∧L1=.blk b12 143 (seC x')::.row 5 1 (.slice A18 40 c18) 40 (bys (headB pub p n))::.blk b6 35 (headC pub p n)::.blk bs 145 (seC x++mo)::(N++(SkO L' z'++R))) F77 rfl rfl rfl (fun w1 H1=>?_) rfl ?_
 ·have H2:=H1.perm (List.Perm.cons (Res.blk b12 143 (seC { x with st:=vP z1.1 0 })) (List.perm_append_comm_assoc [Res.row 5 1 (.slice A18 40 c18) 40 (bys (headB pub p n)),Res.blk b6 35 (headC pub p n),Res.blk bs 145 (seC x++mo)] (SkO L z1) R))
  refine (hmsg b12 z1 ([Res.row 5 1 (.slice A18 40 c18) 40 (bys (headB pub p n)),Res.blk b6 35 (headC pub p n),Res.blk bs 145 (seC x++mo)]++R) w1 hE1 H2).mono fun e w' h=>?_
  obtain ⟨x',N,z',h1,h2,h3,h4⟩:=h
  exact ⟨_,_,h1,⟨x',N,z',rfl,h2,h3,rfl⟩,h4.perm (List.Perm.cons _ (mvM N (SkO L' z') [Res.row 5 1 (.slice A18 40 c18) 40 (bys (headB pub p n)),Res.blk b6 35 (headC pub p n),Res.blk bs 145 (seC x++mo)] R))⟩
 rintro v L1 ⟨x1,N,z2,rfl,hx1,hQ,rfl⟩
 have lx1:=seC_length hx1
 have ox1:=seC_one hx1
 refine vl_v (q_move rfl) rfl<|vl_v (q_ext rfl rfl) rfl<|vl_v (q_ext rfl rfl) rfl<|l_allocA zr33 rfl<|fun b13=>l_storeA 0 rfl rfl rfl sz33 (by with_reducible assumption) (by with_reducible first | exact bys_one _ | exact u32s_one _ | exact u64s_one _ | exact i64s_one _ | exact n64s_one _ | assumption) (by rfl) ?_
 simp only [List.set_cons_zero,List.set_cons_succ]
 refine vl_v (q_assign rfl) rfl<|vl_nil<|th_n<|VC_seq<|VC_seq<|VC_region<|vl_v (q_move rfl) rfl<|vl_v (q_as (v:=.bool false) (q_neq_k U29 rfl rfl) (by simp)) rfl<|vl_nil<|th_n<|VC_no (rfl)<|VC_skip ?_
 refine th_n<|VC_seq<|VC_frame (X:=[_,_,_,_,_]) (fun w9 H9=>?_)
 refine VC_drawQ 10 5 [[],[],[],[1,2],[],[0,3,4],[5],[6],[6],[7,5,0,1,2,3,4,6],[8,9,0,1,2,3,4,5,6,7]] [[],[],[],[1,2],[],[0,1,2,3,4],[0,1,2,3,4,5],[0,1,2,3,4,5,6],[0,1,2,3,4,5,6],[0,1,2,3,4,5,6,7],[0,1,2,3,4,5,6,7,8,9]] [([],[],[],[0,1,2,3,4],[]),([],[],[],[0,1,2,3,4],[]),([],[],[],[0,1,2,3,4],[]),([1,2],[],[],[0,1,2,3,4],[1,2]),([],[],[],[0,1,2,3,4],[]),([0,1,2,3,4],[],[],[0,1,2,3,4],[0,1,2,3,4]),([0,1,2,3,4,5],[],[],[0,1,2,3,4],[0,1,2,3,4,5]),([0,1,2,3,4,5,6],[],[],[0,1,2,3,4],[0,1,2,3,4,5,6]),([0,1,2,3,4,5,6],[],[],[0,1,2,3,4],[0,1,2,3,4,5,6]),([0,1,2,3,4,5,6,7],[],[],[0,1,2,3,4],[0,1,2,3,4,5,6,7])] [0,1,2,3,4] [0,1,2,3,4,5,6,7,8,9] rfl rfl (by kernel_rfl)<|qp_v (fun xs gs hx=>q_loads 0 U33 rfl rfl rfl sz33 (by with_reducible assumption))<|qp_v (fun xs gs hx=>q_move rfl)<|qp_v (fun xs gs hx=>q_loads 3 U35 rfl rfl rfl sz35 (by with_reducible assumption))<|qp_a (fun xs gs hx=>q_callR F72 rfl rfl rfl (fun w1 H1=>hac w1 ((hB.more (SkO L' z2)).more N _ w1 (H9.swap H1))))<|qp_v (fun xs gs hx=>q_move rfl)<|qp_a (Fv:=fun _ _=>isSlT l.length (.int .i64 0)) (N:=fun _ _=>nRowT 5 1 l.length (bys l)) (fun xs gs hx=>?_) ?_
 ·obtain ⟨A44,c44,e44,h44,h44'⟩:=hx.1 rfl
  simp only [e44]
  exact q_callT F78 rfl rfl rfl (fun w1 H1=>hoc _ _ w1 (Reads.rowV 5 e44 rfl w1 H1) ((hC.more (SkO L' z2)).more N _ w1 (H9.swap H1)) (by omega))
 refine qp_v (fun xs gs hx=>q_move rfl)<|qp_v (fun xs gs hx=>q_extX rfl (by obtain ⟨A9,c9,e9,_⟩:=hx.2.1 rfl;exact ⟨_,_,e9,rfl⟩))<|qp_v (f:=fun _ _=>.int .i64 0) (fun xs gs hx=>?_) ?_
 ·obtain ⟨A9,c9,e9,_⟩:=hx.2.1 rfl
  exact q_ext (vs:=#[.slice A9 l.length c9,.int .i64 0]) (congrArg some e9) rfl
 refine qp_v (fun xs gs hx=>q_assign rfl)<|qp_end<|fun xs gs hx=>?_
 obtain ⟨⟨A44,c44,e44,hc44,hm44⟩,⟨A46,c46,e46,hc46,hm46⟩,_⟩:=hx
 simp only [selI,ownsA,List.contains_cons,List.contains_nil,Nat.reduceBEq,Nat.reduceAdd,Bool.or_false,Bool.or_true,Bool.false_or,Bool.true_or,mask,nRow,nBlk,nRowT,tupAt_0,tupAt_1,List.append_assoc,List.nil_append,List.append_nil,List.cons_append,List.singleton_append,e44,e46]
 refine VL.keep (kp [0,1,2,3,6,8,9,11,22,12,13,14,38,48,15] rfl)<|vl_v (q_assign rfl) rfl<|vl_nil<|qn_n<|th_n<|VC_seq<|VC_seq<|VC_region<|vl_v (q_move rfl) rfl<|vl_v (q_as (v:=.bool false) (q_neq_k U29 rfl rfl) (by simp)) rfl<|vl_nil<|th_n<|VC_no (rfl) ?_
 refine VC_skip<|th_n<|VC_seq<|VC_region ?_
 simp only [List.cons_append,List.nil_append]
 refine vl_v (q_move rfl) rfl<|vl_v (q_loads 1 U143 rfl rfl rfl sz143 lx1) rfl<|vl_v (q_nilck rfl) rfl<|vl_v (q_fldA fo145_0 (by decide) rfl rfl) rfl<|l_storeG 4 rfl rfl rfl sz143 lx1 ox1 (by rw [hxl];omega) ?_
 simp only [List.set_cons_zero,List.set_cons_succ]
 rw [hf.wa x1 hx1]
 refine vl_nil<|th_n<|VC_seq<|VC_region<|vl_v (q_move rfl) rfl<|vl_v (q_assign rfl) rfl<|vl_v (q_assign rfl) rfl<|vl_nil<|th_n<|VC_ret<|⟨_,res2 rfl rfl rfl,?_⟩
 exact ⟨x1,N,z2,_,rfl,hx1,hQ,fun w' H=>St.pickR (R:=N++(SkO L' z2++R)) 7 H (ks:=[4,6]) (by decide) (by decide) rfl rfl⟩
theorem fo85_0:fieldOff Tryz.prog 85 0=some (0,2):=by kernel_rfl
theorem fo85_1:fieldOff Tryz.prog 85 1=some (2,1):=by kernel_rfl
theorem fo85_2:fieldOff Tryz.prog 85 2=some (3,1):=by kernel_rfl
theorem may_calls (m:Nat) (hm:m<8) (w:World):Calls Tryz.prog 65 #[vN m] w fun e w'=>e=.returned (.bool true)∧Kept [] w w':=by
 refine enter (n:=9) (R:=fun e L=>e=.returned (.bool true)) [vN m] F65 rfl rfl rfl (St.refl w) ?_ (fun e w' L' h H=>⟨h,H.kept⟩)
 refine VC_seq<|VC_region<|vl_v (q_assign rfl) rfl<|vl_nil<|th_n<|VC_seq<|VC_region<|vl_v (q_move rfl) rfl<|vl_v (q_as (v:=.bool true) (q_geq_n (q:=0) U3 rfl rfl) (by simp)) rfl<|vl_v (q_move rfl) rfl<|vl_vg rfl (q_move rfl) rfl<|vl_vg rfl (q_as (v:=.bool true) (q_lss_n (q:=8) U3 rfl rfl) (by simp;omega)) rfl ?_
 refine vl_v (q_pickT rfl rfl) rfl<|vl_v (q_assign rfl) rfl<|vl_nil<|th_n<|VC_ret<|⟨_,res1 rfl rfl,?_⟩
 exact rfl
def numB (m:Nat):List UInt8:=[UInt8.ofNat m]
def lineC (f t b:Nat):List Value:=[vN f,vN t,vP b 0,.func (.func 66) #[] #[]]
theorem fnew_calls {w0:World} {R:List Res} (b f t:Nat) (hf:f<8) (ht:t<8) (hne:f≠t) (w:World) (H:St [] w0 R w) :
 Calls Tryz.prog 22 #[vP b 0,vN f,vN t] w fun e w'=>∃ bf:Nat,e=.returned (.tuple #[vP bf 0,vN 0])∧St [] w0 (.blk bf 85 (lineC f t b)::R) w':=by
 refine enter (n:=33) (R:=fun e L=>∃ bf:Nat,e=.returned (.tuple #[vP bf 0,vN 0])∧∀ w',St [] w0 L w'→St [] w0 (.blk bf 85 (lineC f t b)::R) w') [vP b 0,vN f,vN t] F22 rfl rfl rfl H ?_ (fun e w' L' h H=>by obtain ⟨bf,h1,h2⟩:=h;exact ⟨bf,h1,h2 w' H⟩)
 refine VC_seq<|VC_region<|vl_v (q_assign rfl) rfl<|vl_v (q_assign rfl) rfl<|vl_nil<|th_n<|VC_seq<|VC_seq<|VC_region<|vl_v (q_move rfl) rfl<|vl_v (q_eqPN U65 rfl rfl) rfl<|vl_v (q_move rfl) rfl ?_
 refine vl_vg rfl (q_move rfl) rfl<|vl_vg rfl (q_callV F65 rfl rfl rfl (fun w1 H1=>may_calls f hf w1)) rfl<|vl_vg rfl (q_not rfl) rfl<|vl_v (q_pickF rfl rfl) rfl<|vl_v (q_move rfl) rfl<|vl_vg rfl (q_move rfl) rfl<|vl_vg rfl (q_callV F65 rfl rfl rfl (fun w1 H1=>may_calls t ht w1)) rfl<|vl_vg rfl (q_not rfl) rfl<|vl_v (q_pickF rfl rfl) rfl<|vl_v (q_move rfl) rfl<|vl_vg rfl (q_move rfl) rfl<|vl_vg rfl (q_move rfl) rfl ?_
 refine vl_vg rfl (q_as (v:=.bool false) (q_eql_n U3 rfl rfl) (by rw [decide_eq_false hne])) rfl<|vl_v (q_pickF rfl rfl) rfl<|vl_nil<|th_n<|VC_no (rfl)<|VC_skip<|th_n<|VC_seq<|VC_region<|vl_v (q_assign rfl) rfl<|vl_nil<|th_n ?_
 refine VC_seq<|VC_region<|vl_v (q_move rfl) rfl<|vl_v (q_move rfl) rfl<|vl_v (q_build (c':=[vN f,vN t]) rfl (by kernel_rfl)) rfl<|vl_v (q_move rfl) rfl<|vl_v (q_move rfl) rfl<|vl_v (q_build (c':=lineC f t b) rfl (by kernel_rfl)) rfl<|l_boxA rfl rfl<|fun b32=>vl_v (q_assign rfl) rfl<|vl_v (q_assign rfl) rfl<|vl_nil ?_
 refine th_n<|VC_ret<|⟨_,res2 rfl rfl rfl,?_⟩
 exact ⟨b32,rfl,fun w' H=>H⟩
theorem beside_calls (f t:Nat) (c:List UInt8) (hc:c.length=32) (w:World) :
 Calls Tryz.prog 66 #[vN f,vN t,.agg (bys c).toArray] w fun e w'=>∃ v,e=.returned v∧St [] w [.row 5 1 v (joinB [numB f,numB t,c]).length (bys (joinB [numB f,numB t,c]))] w':=by
 have lj:(joinB [numB f,numB t,c]).length=46:=by simp only [joinB,numB,List.length_append,highB_length,hc,List.length_nil,List.length_cons]
 have hjc:=fun w1 v0 (h:RowsAt w1 v0 [numB f,numB t,c])=>join_calls [numB f,numB t,c] v0 w1 h (by rw [lj];omega) (by simp)
 obtain ⟨j,hj⟩:∃ j,joinB [numB f,numB t,c]=j:=⟨_,rfl⟩
 rw [hj] at hjc ⊢
 refine enter (n:=16) (R:=fun e L=>∃ v,e=.returned v∧∀ w',St [] w L w'→St [] w [.row 5 1 v j.length (bys j)] w') [vN f,vN t,.agg (bys c).toArray] F66 rfl rfl rfl (St.refl w) ?_ (fun e w' L' h H=>by obtain ⟨v,h1,h2⟩:=h;exact ⟨v,h1,h2 w' H⟩)
 refine VC_seq<|VC_region<|l_boxA rfl rfl<|fun b5=>vl_v (q_assign rfl) rfl<|vl_nil<|th_n<|VC_seq<|VC_region<|vl_v (q_move rfl) rfl<|vl_v (q_conv_nu8 U3 U5 rfl) rfl<|l_litA (cs:=bys [_]) U22 in5 (by decide) rfl rfl rfl rfl (by exact one_all rfl) rfl rfl<|fun b9=>vl_v (q_move rfl) rfl ?_
 refine vl_v (q_conv_nu8 U3 U5 rfl) rfl<|l_litA (cs:=bys [_]) U22 in5 (by decide) rfl rfl rfl rfl (by exact one_all rfl) rfl rfl<|fun b12=>?_
 refine vl_v (q_slcA U33 sz5 rfl rfl rfl rfl (.inl rfl) (by omega) (by omega) (by omega) (by omega) (by (try simp only [Nat.mul_one,Nat.zero_add,Nat.zero_mul,Nat.mul_zero,Nat.add_zero])<;>rfl)) rfl ?_
 refine l_litA (cs:=[.slice (some ⟨b9,0,none⟩) 1 1,.slice (some ⟨b12,0,none⟩) 1 1,.slice (some ⟨b5,0,none⟩) 32 32]) U23 in22 (by decide) rfl rfl rfl rfl (one_all rfl) rfl rfl<|fun b14=>l_callR F47 rfl rfl rfl (fun w1 H1=>hjc w1 _ (rowsAt3 (Reads.row 0 rfl w1 H1) (by omega) (bsAt_of rfl (by simp [numB]) (Reads.row 2 rfl w1 H1)) (bsAt_of rfl (by simp [numB]) (Reads.row 1 rfl w1 H1)) (bsAt_of hc.symm (by omega) (Reads.blk 3 rfl w1 H1)))) rfl<|fun A15 c15 hc15 hm15=>vl_v (q_assign rfl) rfl<|vl_nil<|th_n<|VC_ret<|⟨_,res1 rfl rfl,?_⟩
 exact ⟨_,rfl,fun w' H=>St.pick H (ks:=[0]) (by decide) rfl⟩
theorem frows_calls (f t:Nat) (l:List UInt8) (B:Option Addr) (lb cb:Nat) (w:World) :
 Calls Tryz.prog 28 #[vN f,vN t,.slice B lb cb] w fun e w'=>∃ b1 b2 b3:Nat,e=.returned (.slice (some ⟨b3,0,none⟩) 3 3)∧St [] w [.row 22 1 (.slice (some ⟨b3,0,none⟩) 3 3) 3 [.slice (some ⟨b1,0,none⟩) 1 1,.slice (some ⟨b2,0,none⟩) 1 1,.slice B lb cb],.row 5 1 (.slice (some ⟨b2,0,none⟩) 1 1) 1 (bys (numB t)),.row 5 1 (.slice (some ⟨b1,0,none⟩) 1 1) 1 (bys (numB f))] w':=by
 refine enter (n:=15) (R:=fun e L=>∃ b1 b2 b3:Nat,e=.returned (.slice (some ⟨b3,0,none⟩) 3 3)∧∀ w',St [] w L w'→St [] w [.row 22 1 (.slice (some ⟨b3,0,none⟩) 3 3) 3 [.slice (some ⟨b1,0,none⟩) 1 1,.slice (some ⟨b2,0,none⟩) 1 1,.slice B lb cb],.row 5 1 (.slice (some ⟨b2,0,none⟩) 1 1) 1 (bys (numB t)),.row 5 1 (.slice (some ⟨b1,0,none⟩) 1 1) 1 (bys (numB f))] w') [vN f,vN t,.slice B lb cb] F28 rfl rfl rfl (St.refl w) ?_ (fun e w' L' h H=>by obtain ⟨b1,b2,b3,h1,h2⟩:=h;exact ⟨b1,b2,b3,h1,h2 w' H⟩)
 refine VC_seq<|VC_region<|vl_v (q_assign rfl) rfl<|vl_nil<|th_n<|VC_seq<|VC_region<|vl_v (q_move rfl) rfl<|vl_v (q_conv_nu8 U3 U5 rfl) rfl<|l_litA (cs:=bys [_]) U22 in5 (by decide) rfl rfl rfl rfl (by exact one_all rfl) rfl rfl<|fun b9=>vl_v (q_move rfl) rfl<|vl_v (q_conv_nu8 U3 U5 rfl) rfl ?_
 refine l_litA (cs:=bys [_]) U22 in5 (by decide) rfl rfl rfl rfl (by exact one_all rfl) rfl rfl<|fun b12=>vl_v (q_move rfl) rfl<|l_litA (cs:=[.slice (some ⟨b9,0,none⟩) 1 1,.slice (some ⟨b12,0,none⟩) 1 1,.slice B lb cb]) U23 in22 (by decide) rfl rfl rfl rfl (one_all rfl) rfl rfl<|fun b14=>vl_v (q_assign rfl) rfl<|vl_nil<|th_n<|VC_ret<|⟨_,res1 rfl rfl,?_⟩
 exact ⟨b9,b12,b14,rfl,fun w' H=>H⟩
end Go.Proofs.YtfpdnpppcoomnaaGreat
namespace Go.PBYtfpdnpppcoomnaaGreat
open Go Go.RowKit
section
variable {P : Program} {n : Nat} {S : List Nat} {w0 : World} {d : Tmp} {ty : TypeId} {pos : String} {af : Array Edge} {g : Option (Nat × Bool)} {env : Env} {L : List Res}
theorem q_cloR {f:FuncId} {fn:Func} {xo:Operand} {xs:Array Operand} {ats:Array TypeId} {caps args:List Value} {T:TypeId} {size m:Nat} {cs:List Value} (hxo:evalE env xo=some (.func (.func f) #[] caps.toArray)) (hf:P.funcs[f]?=some fn) (hb:fn.body.isSome=true) (hn:(fn.name == "runtime.NumGoroutine")=false) (hx:evalsE env xs.toList=some args)
 (hc:∀ w,St S w0 L w→Calls P f (args++caps).toArray w (fun e w'=>∃ v,e=.returned v∧St [] w [.row T size v m cs] w')) :
 QT P n S w0 { dst:=some d,op:=.call { callee:=.value xo,args:=xs,argTypes:=ats },type:=ty,pos,after:=af,guard:=g } env L (.any (isSl m) (nRow T size m cs)) :=
 ⟨fun a w hm H=>opw_clo (args++caps) hf hb hn (hm.eval hxo) (by rw [hm.evals hx]) ((hc w H).mono fun e w' ⟨v,h1,h2⟩=>⟨v,h1,v,rfl,fun h=>by simp at h,(by
  obtain ⟨A,c,h3,h4,h5,_⟩:=Row.slice (h2.get (k:=0) rfl)
  exact ⟨A,c,h3,h4,h5⟩),h2⟩)⟩
end
section
variable {P : Program} {n : Nat} {S : List Nat} {w0 : World} {Z : List PanicEntry → World → Prop} {ops : Array Oper} {L : List Res} {d : Tmp} {ty : TypeId} {pos : String} {af : Array Edge} {F : (Xs → Xs → Env) → AkP → Prop} {k : Nat} {C ti to xi xo : List Nat} {Ts : List T5} {E : Xs → Xs → Env} {A : AkP} {rest : List Oper}
theorem qp_cloE {dst:Option Tmp} {f:FuncId} {fn:Func} {xf:Operand} {xs_:Array Operand} {ats:Array TypeId} {args:Xs→Xs→List Value} {caps:List Value} (Fs:Xs→Xs→Value→Value→Prop) (N:Xs→Xs→Value→Value→List Res) (hxo:∀ xs gs:Xs,factsAP C xs gs A→evalE (E xs gs) xf=some (.func (.func f) #[] caps.toArray)) (hf:P.funcs[f]?=some fn) (hb:fn.body.isSome=true) (hn:(fn.name == "runtime.NumGoroutine")=false)
 (hx:∀ xs gs:Xs,factsAP C xs gs A→evalsE (E xs gs) xs_.toList=some (args xs gs))
 (hc:∀ xs gs:Xs,factsAP C xs gs A→∀ R w,St S w0 ((selI (fun j=>ti.contains j) 0 L++ownsA (fun j=>to.contains j) xs gs A)++((selI (fun j=>xi.contains j) 0 L++ownsA (fun j=>xo.contains j) xs gs A)++R)) w →
  Calls P f (args xs gs++caps).toArray w fun e w'=>∃ v g,e=.returned v∧(dst=none→v=undef)∧Fs xs gs v g∧St S w0 (N xs gs v g++((selI (fun j=>xi.contains j) 0 L++ownsA (fun j=>xo.contains j) xs gs A)++R)) w')
 (h:quietsP P n S w0 Z ops L F (k+1) rest Ts (fun xs gs=>ext dst (xs k) (E xs gs)) (A++[(k,C,Fs,N)])) :
 quietsP P n S w0 Z ops L F k ({ dst:=dst,op:=.call { callee:=.value xf,args:=xs_,argTypes:=ats },type:=ty,pos,after:=af,guard:=none }::rest) ((C,ti,to,xi,xo)::Ts) E A :=
 qp_of (s:=.any Fs N) (fun xs gs hf'=>.inl ⟨trivial,⟨fun a w R hm H=>opw_clo (args xs gs++caps) hf hb hn (hm.eval (hxo xs gs hf')) (by rw [hm.evals (hx xs gs hf')]) ((hc xs gs hf' R w H).mono fun e w' ⟨v,g,h1,h2,h3,h4⟩=>⟨v,h1,v,g,rfl,h2,h3,h4⟩)⟩⟩) h
end
def dNat (g:Value):Nat:=match g with
 | .int _ i=>i.toNat
 | _=>0
def gNat (n:Nat):Value:=.int .i64 (n:Int)
theorem dgNat (n:Nat):dNat (gNat n)=n:=Int.toNat_natCast n
def d3 (g:Value):Value × Value × Value:=match g with
 | .tuple a=>match a.toList with
  | [x,y,z]=>(x,y,z)
  | _=>(undef,undef,undef)
 | _=>(undef,undef,undef)
theorem dg3 (x y z:Value):d3 (.tuple #[x,y,z])=(x,y,z):=rfl
end Go.PBYtfpdnpppcoomnaaGreat
namespace Go.Proofs.YtfpdnpppcoomnaaGreat
open Go Go.RowKit Go.PBYtfpdnpppcoomnaaGreat
theorem tupAt3_1 (a b c:Value):tupAt (.tuple #[a,b,c]) 1=b:=rfl
def fRows (f t:Nat) (u:Value) (z:Value × Value × Value):List Res:=[.row 22 1 (.slice (some ⟨dNat z.2.2,0,none⟩) 3 3) 3 [.slice (some ⟨dNat z.1,0,none⟩) 1 1,.slice (some ⟨dNat z.2.1,0,none⟩) 1 1,u],.row 5 1 (.slice (some ⟨dNat z.2.1,0,none⟩) 1 1) 1 (bys (numB t)),.row 5 1 (.slice (some ⟨dNat z.1,0,none⟩) 1 1) 1 (bys (numB f))]
theorem frowsz_calls (f t:Nat) (l:List UInt8) (B:Option Addr) (lb cb:Nat) (w:World) :
 Calls Tryz.prog 28 #[vN f,vN t,.slice B lb cb] w fun e w'=>∃ g:Value,e=.returned (.slice (some ⟨dNat (d3 g).2.2,0,none⟩) 3 3)∧St [] w (fRows f t (.slice B lb cb) (d3 g)) w' :=
 (frows_calls f t l B lb cb w).mono fun e w' ⟨b1,b2,b3,h1,h2⟩=>⟨.tuple #[gNat b1,gNat b2,gNat b3],by rw [dg3,dgNat];exact h1,by rw [dg3];unfold fRows;simp only [dgNat];exact h2⟩
theorem fRows_at {f t:Nat} {l:List UInt8} {B:Option Addr} {lb cb:Nat} {z:Value × Value × Value} {w:World} (hlb:lb=l.length) (hcb:lb≤cb) (h:∀ r∈fRows f t (.slice B lb cb) z,r.ok w) (hB:SlAt w B (bys l)):RowsAt w (.slice (some ⟨dNat z.2.2,0,none⟩) 3 3) [numB f,numB t,l] :=
 rowsAt3 (Row.sl (h _ List.mem_cons_self)) (by omega) (bsAt_of rfl (by simp [numB]) (Row.sl (h _ (List.mem_cons_of_mem _ (List.mem_cons_of_mem _ List.mem_cons_self))))) (bsAt_of rfl (by simp [numB]) (Row.sl (h _ (List.mem_cons_of_mem _ List.mem_cons_self)))) (bsAt_of hlb hcb hB)
def besB (f t:Nat) (c:List UInt8):List UInt8:=joinB [numB f,numB t,c]
theorem besB_length (f t:Nat) {c:List UInt8} (hc:c.length=32):(besB f t c).length=46:=by simp only [besB,joinB,numB,List.length_append,highB_length,hc,List.length_nil,List.length_cons]
def bodyB (ch pub o l:List UInt8) (f t p n:Nat):List UInt8:=closeW (msgK ch) (asideB (besB f t (comitB o [numB f,numB t,l])) pub p n) (o++l)
theorem bodyB_length (ch pub o l:List UInt8) (f t p n:Nat) (ho:o.length=32):(bodyB ch pub o l f t p n).length=64+l.length:=by rw [bodyB,closeW_length,List.length_append,ho];omega
theorem wrap_calls {S:List Nat} {w0:World} {R:List Res} (bf bs bl f t:Nat) (x:SeD) (mo:List Value) (ch pub o l:List UInt8) (n:Nat) (C:Option Addr) (lc cc:Nat) (hx:x.ok) (hs0:x.s=vP bl 0) (ht0:x.t=false) (hpb:x.own.drop 32=pub) (hch:ch.length=32) (ho:o.length=32) (hn:n≤1000) (hp:x.p≤1000) (hlc:lc=l.length) (hcc:lc≤cc) (hl:l.length≤250) (hC:Rest S w0 R C l) (w:World) (H:St S w0 ([.blk bf 85 (lineC f t bs),.blk bs 145 (seC x++mo),.blk bl 153 (liC ch n)]++R) w) :
 Calls Tryz.prog 7 #[vP bf 0,.agg (bys o).toArray,.slice C lc cc] w fun e w'=>∃ (bl':Nat) (v:Value),e=.returned (.tuple #[.agg (envC f t (comitB o [numB f,numB t,l]) pub x.p n v).toArray,vN 0])∧St S w0 ([.blk bf 85 (lineC f t bs),.blk bs 145 (seC { x with s:=vP bl' 0 }++mo),.blk bl' 153 (liC (nextK ch) (n+1)),.row 5 1 v (64+l.length) (bys (bodyB ch pub o l f t x.p n))]++R) w':=by
 subst hlc
 have hpub:pub.length=32:=by rw [← hpb,List.length_drop,hx.own]
 have lcm:=comitB_length o [numB f,numB t,l]
 have hmk:=fun (v0:Value) w1 h1=>cmake_calls o [numB f,numB t,l] v0 ho (by simp) (by simp only [joinB,numB,List.length_append,highB_length,List.length_nil,List.length_cons];omega) w1 h1
 unfold bodyB
 obtain ⟨cm,hcm⟩:∃ c,comitB o [numB f,numB t,l]=c:=⟨_,rfl⟩
 rw [hcm] at hmk lcm ⊢
 have hbe:=fun w=>beside_calls f t cm lcm w
 have lbe:=besB_length f t lcm
 have hbe:∀ w,Calls Tryz.prog 66 #[vN f,vN t,.agg (bys cm).toArray] w fun e w'=>∃ v,e=.returned v∧St [] w [.row 5 1 v (besB f t cm).length (bys (besB f t cm))] w':=hbe
 obtain ⟨be,hbe0⟩:∃ c,besB f t cm=c:=⟨_,rfl⟩
 rw [hbe0] at hbe lbe ⊢
 have lol:(o++l).length=32+l.length:=by rw [List.length_append,ho]
 have hpk:=fun w1 h1=>cpack_calls o l C l.length cc ho rfl (by omega) w1 h1
 have hsd:=fun (S0:List Nat) (w00:World) (R:List Res) (B C:Option Addr) (cb cc:Nat) hcb hcc hB hC w1 H1=>send_calls (S:=S0) (w0:=w00) (R:=R) bs bl x mo ch pub be (o++l) n B C be.length cb (32+l.length) cc hx hs0 ht0 hpb hch hn hp rfl hcb (by omega) lol.symm hcc (by omega) hB hC w1 H1
 obtain ⟨bd,hbd⟩:∃ c,closeW (msgK ch) (asideB be pub x.p n) (o++l)=c:=⟨_,rfl⟩
 rw [hbd] at hsd ⊢
 have lbo:(bys o).length=32:=by rw [bys_length];exact ho
 have lbm:(bys cm).length=32:=by rw [bys_length];exact lcm
 have lhd:(headC pub (x.p:Int) (n:Int)).length=34:=headC_length hpub _ _
 have ohd:=headC_one pub (x.p:Int) (n:Int)
 refine enter (n:=76) (R:=fun e L=>∃ (bl':Nat) (v:Value),e=.returned (.tuple #[.agg (envC f t cm pub x.p n v).toArray,vN 0])∧∀ w',St S w0 L w'→St S w0 ([.blk bf 85 (lineC f t bs),.blk bs 145 (seC { x with s:=vP bl' 0 }++mo),.blk bl' 153 (liC (nextK ch) (n+1)),.row 5 1 v (64+l.length) (bys bd)]++R) w') [vP bf 0,.agg (bys o).toArray,.slice C l.length cc] F7 rfl rfl rfl H ?_ (fun e w' L' h H=>by obtain ⟨bl',v,h1,h2⟩:=h;exact ⟨bl',v,h1,h2 w' H⟩)
 refine VC_seq<|VC_region<|l_boxA rfl rfl<|fun b4=>l_allocA zr37 rfl<|fun b6=>vl_v (q_assign rfl) rfl<|vl_nil<|th_n<|VC_seq<|VC_seq<|VC_region<|vl_v (q_move rfl) rfl<|vl_v (q_lenS U22 rfl) rfl ?_
 refine vl_v (q_as (v:=.bool false) (q_gtr_n (q:=250) U3 rfl rfl) (by simp;omega)) rfl<|vl_nil<|th_n<|VC_no (rfl)<|VC_skip<|th_n<|VC_seq<|VC_frame (X:=[_,_,_,_,_]) (fun w9 H9=>?_)
 refine VC_drawQ 15 5 [[],[],[1],[2],[3],[4],[],[6],[7],[8],[9],[],[5,10,11],[0,12],[],[14,13,0,1,2,3,4,5,6,7,8,9,10,11,12]] [[],[],[1],[1,2],[1,2,3],[1,2,3,4],[],[6],[6,7],[6,7,8],[6,7,8,9],[],[1,2,3,4,5,6,7,8,9,10,11],[0,1,2,3,4,5,6,7,8,9,10,11,12],[],[0,1,2,3,4,5,6,7,8,9,10,11,12,13,14]] [([],[],[],[0,1,2,3,4],[]),([],[],[],[0,1,2,3,4],[]),([1],[],[],[0,1,2,3,4],[1]),([1,2],[],[],[0,1,2,3,4],[1,2]),([1,2,3],[],[],[0,1,2,3,4],[1,2,3]),([1,2,3,4],[],[],[0,1,2,3,4],[1,2,3,4]),([],[],[],[0,1,2,3,4],[]),([6],[],[],[0,1,2,3,4],[6]),([6,7],[],[],[0,1,2,3,4],[6,7]),([6,7,8],[],[],[0,1,2,3,4],[6,7,8]),([6,7,8,9],[],[],[0,1,2,3,4],[6,7,8,9]),([],[],[],[0,1,2,3,4],[]),([1,2,3,4,5,6,7,8,9,10,11],[],[],[0,1,2,3,4],[1,2,3,4,5,6,7,8,9,10,11]),([0,1,2,3,4,5,6,7,8,9,10,11,12],[],[],[0,1,2,3,4],[0,1,2,3,4,5,6,7,8,9,10,11,12]),([],[],[],[0,1,2,3,4],[])] [0,1,2,3,4] [0,1,2,3,4,5,6,7,8,9,10,11,12,13,14] rfl rfl (by kernel_rfl)<|qp_v (fun xs gs hx=>q_loads 1 U33 rfl rfl rfl sz33 (by with_reducible assumption))<|qp_v (fun xs gs hx=>q_move rfl)<|qp_v (fun xs gs hx=>q_nilck rfl)<|qp_v (fun xs gs hx=>q_fldA fo85_0 (by decide) rfl rfl)<|qp_v (fun xs gs hx=>q_fldA fo82_0 (by decide) rfl rfl)<|qp_v (fun xs gs hx=>q_load 2 U3 rfl rfl rfl rfl)<|qp_v (fun xs gs hx=>q_move rfl)<|qp_v (fun xs gs hx=>q_nilck rfl)<|qp_v (fun xs gs hx=>q_fldA fo85_0 (by decide) rfl rfl)<|qp_v (fun xs gs hx=>q_fldA fo82_1 (by decide) rfl rfl)<|qp_v (fun xs gs hx=>q_load 2 U3 rfl rfl rfl rfl) ?_
 refine qp_v (fun xs gs hx=>q_move rfl)<|qp_callE (fun xs gs v g=>v=.slice (some ⟨dNat (d3 g).2.2,0,none⟩) 3 3) (fun xs gs v g=>fRows f t (.slice C l.length cc) (d3 g)) F28 rfl rfl (args:=fun xs gs=>[vN f,vN t,.slice C l.length cc]) (fun xs gs hx=>rfl) (fun xs gs hx R w1 H1=>(frowsz_calls f t l C l.length cc w1).mono fun e w' h=>(by obtain ⟨g,h1,h2⟩:=h;exact ⟨_,g,h1,(by intro h;cases h),rfl,(H1.join h2).perm List.perm_append_comm⟩))<|qp_v (f:=fun _ _=>.agg (bys cm).toArray) (fun xs gs hx=>?_) ?_
 ·have e28:=hx.1 rfl
  simp only [e28]
  exact q_callV F27 rfl rfl rfl (fun w1 H1=>hmk _ w1 (fRows_at rfl hcc (fun r hr=>H1.ok r (List.mem_append_right _ (List.mem_append_left _ hr))) (hC _ w1 (H9.swap H1))))
 refine qp_a (fun xs gs hx=>q_alloc zr33 rfl)<|qp_end<|fun xs gs hx=>?_
 obtain ⟨f28,⟨b8,e8⟩,_⟩:=hx
 simp only [selI,ownsA,List.contains_cons,List.contains_nil,Nat.reduceBEq,Nat.reduceAdd,Bool.or_false,Bool.or_true,Bool.false_or,Bool.true_or,mask,nRow,nBlk,nRowT,tupAt_0,tupAt_1,List.append_assoc,List.nil_append,List.append_nil,List.cons_append,List.singleton_append,e8]
 simp only [f28]
 obtain ⟨z3,hz3⟩:∃ z,d3 (gs 12)=z:=⟨_,rfl⟩
 rw [hz3]
 simp only [fRows,List.cons_append,List.nil_append]
 refine VL.keep (kp [0,1,2,4,6,7,14,29,8] rfl)<|l_storeA 8 rfl rfl rfl sz33 (by with_reducible assumption) (by with_reducible first | exact bys_one _ | exact u32s_one _ | exact u64s_one _ | exact i64s_one _ | exact n64s_one _ | assumption) (by rfl) ?_
 simp only [List.set_cons_zero,List.set_cons_succ]
 refine vl_nil<|qn_n<|th_n<|VC_seq<|VC_frame (X:=[_,_,_,_,_,_,_,_,_]) (fun w9 H9=>?_)
 refine VC_drawQ 31 9 [[],[0],[1],[2],[],[4],[5],[6],[],[8],[9],[10],[11],[],[13],[14],[15],[16],[],[7,12,17,18],[],[],[20,21,19],[3,19,22],[23],[24],[24],[24],[],[28,25,23,0,1,2,3,4,5,6,7,8,9,10,11,12,13,14,15,16,17,18,19,20,21,22,24],[26,29,0,1,2,3,4,5,6,7,8,9,10,11,12,13,14,15,16,17,18,19,20,21,22,23,24,25,28],[27,30,0,1,2,3,4,5,6,7,8,9,10,11,12,13,14,15,16,17,18,19,20,21,22,23,24,25,26,28,29]] [[],[0],[0,1],[0,1,2],[],[4],[4,5],[4,5,6],[],[8],[8,9],[8,9,10],[8,9,10,11],[],[13],[13,14],[13,14,15],[13,14,15,16],[],[4,5,6,7,8,9,10,11,12,13,14,15,16,17,18],[],[],[4,5,6,7,8,9,10,11,12,13,14,15,16,17,18,19,20,21],[0,1,2,3,4,5,6,7,8,9,10,11,12,13,14,15,16,17,18,19,20,21,22],[0,1,2,3,4,5,6,7,8,9,10,11,12,13,14,15,16,17,18,19,20,21,22,23],[0,1,2,3,4,5,6,7,8,9,10,11,12,13,14,15,16,17,18,19,20,21,22,23,24],[0,1,2,3,4,5,6,7,8,9,10,11,12,13,14,15,16,17,18,19,20,21,22,23,24],[0,1,2,3,4,5,6,7,8,9,10,11,12,13,14,15,16,17,18,19,20,21,22,23,24],[],[0,1,2,3,4,5,6,7,8,9,10,11,12,13,14,15,16,17,18,19,20,21,22,23,24,25,28],[0,1,2,3,4,5,6,7,8,9,10,11,12,13,14,15,16,17,18,19,20,21,22,23,24,25,26,28,29],[0,1,2,3,4,5,6,7,8,9,10,11,12,13,14,15,16,17,18,19,20,21,22,23,24,25,26,27,28,29,30]] [([],[],[],[0,1,2,3,4,5,6,7,8],[]),([0],[],[],[0,1,2,3,4,5,6,7,8],[0]),([0,1],[],[],[0,1,2,3,4,5,6,7,8],[0,1]),([0,1,2],[],[],[0,1,2,3,4,5,6,7,8],[0,1,2]),([],[],[],[0,1,2,3,4,5,6,7,8],[]),([4],[],[],[0,1,2,3,4,5,6,7,8],[4]),([4,5],[],[],[0,1,2,3,4,5,6,7,8],[4,5]),([4,5,6],[],[],[0,1,2,3,4,5,6,7,8],[4,5,6]),([],[],[],[0,1,2,3,4,5,6,7,8],[]),([8],[],[],[0,1,2,3,4,5,6,7,8],[8]),([8,9],[],[],[0,1,2,3,4,5,6,7,8],[8,9]),([8,9,10],[],[],[0,1,2,3,4,5,6,7,8],[8,9,10]),([8,9,10,11],[],[],[0,1,2,3,4,5,6,7,8],[8,9,10,11]),([],[],[],[0,1,2,3,4,5,6,7,8],[]),([13],[],[],[0,1,2,3,4,5,6,7,8],[13]),([13,14],[],[],[0,1,2,3,4,5,6,7,8],[13,14]),([13,14,15],[],[],[0,1,2,3,4,5,6,7,8],[13,14,15]),([13,14,15,16],[],[],[0,1,2,3,4,5,6,7,8],[13,14,15,16]),([],[],[],[0,1,2,3,4,5,6,7,8],[]),([4,5,6,7,8,9,10,11,12,13,14,15,16,17,18],[],[],[0,1,2,3,4,5,6,7,8],[4,5,6,7,8,9,10,11,12,13,14,15,16,17,18]),([],[],[],[0,1,2,3,4,5,6,7,8],[]),([],[],[],[0,1,2,3,4,5,6,7,8],[]),([4,5,6,7,8,9,10,11,12,13,14,15,16,17,18,19,20,21],[],[],[0,1,2,3,4,5,6,7,8],[4,5,6,7,8,9,10,11,12,13,14,15,16,17,18,19,20,21]),([0,1,2,3,4,5,6,7,8,9,10,11,12,13,14,15,16,17,18,19,20,21,22],[3,4],[],[0,1,2,5,6,7,8],[0,1,2,3,4,5,6,7,8,9,10,11,12,13,14,15,16,17,18,19,20,21,22]),([0,1,2,3,4,5,6,7,8,9,10,11,12,13,14,15,16,17,18,19,20,21,22,23],[],[],[0,1,2,5,6,7,8],[0,1,2,3,4,5,6,7,8,9,10,11,12,13,14,15,16,17,18,19,20,21,22,23]),([0,1,2,3,4,5,6,7,8,9,10,11,12,13,14,15,16,17,18,19,20,21,22,23,24],[],[],[0,1,2,5,6,7,8],[0,1,2,3,4,5,6,7,8,9,10,11,12,13,14,15,16,17,18,19,20,21,22,23,24]),([0,1,2,3,4,5,6,7,8,9,10,11,12,13,14,15,16,17,18,19,20,21,22,23,24],[],[],[0,1,2,5,6,7,8],[0,1,2,3,4,5,6,7,8,9,10,11,12,13,14,15,16,17,18,19,20,21,22,23,24]),([0,1,2,3,4,5,6,7,8,9,10,11,12,13,14,15,16,17,18,19,20,21,22,23,24],[],[],[0,1,2,5,6,7,8],[0,1,2,3,4,5,6,7,8,9,10,11,12,13,14,15,16,17,18,19,20,21,22,23,24]),([],[],[],[0,1,2,5,6,7,8],[]),([0,1,2,3,4,5,6,7,8,9,10,11,12,13,14,15,16,17,18,19,20,21,22,23,24,25,28],[],[28],[0,1,2,5,6,7,8],[0,1,2,3,4,5,6,7,8,9,10,11,12,13,14,15,16,17,18,19,20,21,22,23,24,25]),([0,1,2,3,4,5,6,7,8,9,10,11,12,13,14,15,16,17,18,19,20,21,22,23,24,25,26,28,29],[],[],[0,1,2,5,6,7,8],[0,1,2,3,4,5,6,7,8,9,10,11,12,13,14,15,16,17,18,19,20,21,22,23,24,25,26,29])] [0,1,2,5,6,7,8] [0,1,2,3,4,5,6,7,8,9,10,11,12,13,14,15,16,17,18,19,20,21,22,23,24,25,26,27,29,30] rfl rfl (by kernel_rfl)<|qp_v (fun xs gs hx=>q_move rfl)<|qp_v (fun xs gs hx=>q_nilck rfl)<|qp_v (fun xs gs hx=>q_fldA fo85_1 (by decide) rfl rfl)<|qp_v (fun xs gs hx=>q_load 2 U65 rfl rfl rfl rfl)<|qp_v (fun xs gs hx=>q_move rfl)<|qp_v (fun xs gs hx=>q_nilck rfl)<|qp_v (fun xs gs hx=>q_fldA fo85_2 (by decide) rfl rfl)<|qp_v (fun xs gs hx=>q_load 2 U83 rfl rfl rfl rfl)<|qp_v (fun xs gs hx=>q_move rfl)<|qp_v (fun xs gs hx=>q_nilck rfl)<|qp_v (fun xs gs hx=>q_fldA fo85_0 (by decide) rfl rfl) ?_
 refine qp_v (fun xs gs hx=>q_fldA fo82_0 (by decide) rfl rfl)<|qp_v (fun xs gs hx=>q_load 2 U3 rfl rfl rfl rfl)<|qp_v (fun xs gs hx=>q_move rfl)<|qp_v (fun xs gs hx=>q_nilck rfl)<|qp_v (fun xs gs hx=>q_fldA fo85_0 (by decide) rfl rfl)<|qp_v (fun xs gs hx=>q_fldA fo82_1 (by decide) rfl rfl)<|qp_v (fun xs gs hx=>q_load 2 U3 rfl rfl rfl rfl)<|qp_v (fun xs gs hx=>q_loads 8 U33 rfl rfl rfl sz33 (by with_reducible assumption))<|qp_a (fun xs gs hx=>q_cloR (caps:=[]) rfl F66 rfl rfl rfl (fun w1 H1=>hbe w1))<|qp_v (fun xs gs hx=>q_loads 1 U33 rfl rfl rfl sz33 (by with_reducible assumption))<|qp_v (fun xs gs hx=>q_move rfl) ?_
 refine qp_callE (fun xs gs v g=>∃ A c,v=.slice A (32+l.length) c∧32+l.length≤c) (fun xs gs v g=>[.row (dNat g) 1 v (32+l.length) (bys (o++l))]) F30 rfl rfl (args:=fun xs gs=>[.agg (bys o).toArray,.slice C l.length cc]) (fun xs gs hx=>rfl) (fun xs gs hx R w1 H1=>(hpk w1 (hC _ w1 (H9.swap H1))).mono fun e w' h=>(by obtain ⟨v,T,h1,h2⟩:=h;obtain ⟨A,c,e9,h9,_⟩:=Row.slice (h2.get (k:=0) rfl);exact ⟨v,gNat T,h1,(by intro h;cases h),⟨A,c,e9,h9⟩,by rw [dgNat];exact (H1.join h2).perm List.perm_append_comm⟩)) ?_
 refine qp_callE (fun xs gs v g=>∃ A c,v=.tuple #[.agg (headC pub x.p n).toArray,.slice A ((o++l).length+32) c,vN 0]) (fun xs gs v g=>[.blk bs 145 (seC { x with s:=vP (dNat g) 0 }++mo),.blk (dNat g) 153 (liC (nextK ch) (n+1)),.row 5 1 (tupAt v 1) ((o++l).length+32) (bys bd)]) F29 rfl rfl (args:=fun xs gs=>[vP bs 0,xs 19,xs 22]) (fun xs gs hx=>rfl) (fun xs gs hx R w1 H1=>(by
  obtain ⟨A50,c50,e50,h50,_⟩:=hx.1 rfl
  obtain ⟨A53,c53,e53,h53⟩:=hx.2.1 rfl
  have e50:xs 19=.slice A50 be.length c50:=e50
  have e53:xs 22=.slice A53 (32+l.length) c53:=e53
  have hr:=hsd _ _ _ A50 A53 c50 c53 h50 h53 (Rest.row (T:=5) (v:=xs 19) (n:=be.length) 7 rfl e50) (Rest.row (T:=dNat (gs 22)) (v:=xs 22) (n:=32+l.length) 8 rfl e53) w1 H1
  show Calls _ _ #[vP bs 0,xs 19,xs 22] w1 _
  rw [e50,e53]
  refine hr.mono fun e w' h=>?_
  obtain ⟨bl',v,h1,h2⟩:=h
  obtain ⟨A,c,e9,_,_⟩:=Row.slice (h2.get (k:=2) rfl)
  subst e9
  exact ⟨_,gNat bl',h1,(by intro h;cases h),⟨A,c,rfl⟩,by rw [dgNat];exact h2⟩)) ?_
 refine qp_v (fun xs gs hx=>q_move rfl)<|qp_v (f:=fun _ _=>.agg (headC pub x.p n).toArray) (fun xs gs hx=>?_) ?_
 ·obtain ⟨A9,c9,e9⟩:=hx.2.2.1 rfl
  exact q_ext (vs:=#[.agg (headC pub x.p n).toArray,.slice A9 ((o++l).length+32) c9,vN 0]) (congrArg some e9) rfl
 refine qp_v (fun xs gs hx=>q_extX rfl (by obtain ⟨A9,c9,e9⟩:=hx.2.2.1 rfl;exact ⟨_,_,e9,rfl⟩))<|qp_v (f:=fun _ _=>vN 0) (fun xs gs hx=>?_) ?_
 ·obtain ⟨A9,c9,e9⟩:=hx.2.2.1 rfl
  exact q_ext (vs:=#[.agg (headC pub x.p n).toArray,.slice A9 ((o++l).length+32) c9,vN 0]) (congrArg some e9) rfl
 refine qp_a (fun xs gs hx=>q_alloc zr35 rfl) ?_
 refine qp_storeN (fun xs gs hx=>rfl) (fun xs gs hx=>hx.2.2.2.1 rfl) (fun xs gs hx=>rfl) (fun xs gs hx=>List.append_nil _) sz35 (fun xs gs hx=>by first | with_reducible assumption | omega | rfl) (fun xs gs hx=>by first | (with_reducible first | exact bys_one _ | exact u32s_one _ | exact u64s_one _ | exact i64s_one _ | exact n64s_one _ | assumption) | exact bys_one _ | exact u32s_one _ | exact u64s_one _ | exact i64s_one _ | exact one_all rfl | (refine app_one ?_ ?_<;>first | exact bys_one _ | exact one_all rfl | (simp;done))) (fun xs gs hx=>by first | with_reducible assumption | omega | rfl) ?_
 refine qp_v (fun xs gs hx=>q_assign rfl)<|qp_end<|fun xs gs hx=>?_
 obtain ⟨f50,f53,f54,⟨b9,e9⟩,_,_⟩:=hx
 simp only [selI,ownsA,List.contains_cons,List.contains_nil,Nat.reduceBEq,Nat.reduceAdd,Bool.or_false,Bool.or_true,Bool.false_or,Bool.true_or,mask,nRow,nBlk,nRowT,tupAt_0,tupAt_1,List.append_assoc,List.nil_append,List.append_nil,List.cons_append,List.singleton_append,e9]
 obtain ⟨A53,c53,e53,h53⟩:=f53
 obtain ⟨A54,c54,e54⟩:=f54
 simp only [e53,e54,tupAt3_1]
 obtain ⟨bl1,hbl1⟩:∃ q,dNat (gs 23)=q:=⟨_,rfl⟩
 obtain ⟨T1,hT1⟩:∃ q,dNat (gs 22)=q:=⟨_,rfl⟩
 rw [hbl1,hT1]
 have hL:(o++l).length+32=64+l.length:=by omega
 rw [hL]
 have lev:(envC f t cm pub x.p n (.slice A54 (64+l.length) c54)).length=69:=(envC_f lcm hpub).len
 have oev:∀ u∈envC (f:Int) (t:Int) cm pub (x.p:Int) (n:Int) (.slice A54 (64+l.length) c54),u.oneCell'=true:=envC_one rfl
 refine VL.keep (kp [0,1,2,4,6,7,14,8,57,9,10] rfl)<|vl_v (q_assign rfl) rfl<|vl_nil<|qn_n<|th_n<|VC_seq<|VC_seq<|VC_region<|vl_v (q_move rfl) rfl<|vl_v (q_as (v:=.bool false) (q_neq_k U29 rfl rfl) (by simp)) rfl<|vl_nil<|th_n<|VC_no (rfl) ?_
 refine VC_skip<|th_n<|VC_seq<|VC_drawV 13 [[],[0],[1],[2],[3],[],[5],[6],[7],[8],[],[],[],[4,9,10,11,12],[13,0,1,2,3,4,5,6,7,8,9,10,11,12],[14,0,1,2,3,4,5,6,7,8,9,10,11,12,13]] [[],[0],[0,1],[0,1,2],[0,1,2,3],[],[5],[5,6],[5,6,7],[5,6,7,8],[],[],[],[0,1,2,3,4,5,6,7,8,9,10,11,12],[0,1,2,3,4,5,6,7,8,9,10,11,12,13],[0,1,2,3,4,5,6,7,8,9,10,11,12,13,14]] rfl (by kernel_rfl)<|qv_v (q_move rfl)<|qv_v (q_nilck rfl)<|qv_v (q_fldA fo85_0 (by decide) rfl rfl)<|qv_v (q_fldA fo82_0 (by decide) rfl rfl)<|qv_v (q_load 2 U3 rfl rfl rfl rfl)<|qv_v (q_move rfl)<|qv_v (q_nilck rfl)<|qv_v (q_fldA fo85_0 (by decide) rfl rfl) ?_
 refine qv_v (q_fldA fo82_1 (by decide) rfl rfl)<|qv_v (q_load 2 U3 rfl rfl rfl rfl)<|qv_v (q_loads 6 U33 rfl rfl rfl sz33 (by with_reducible assumption))<|qv_v (q_loads 12 U35 rfl rfl rfl sz35 (by with_reducible assumption))<|qv_v (q_move rfl)<|qv_end<|VL.keep (kp [0,1,2,4,6,7,14,8,9,10,11,59,66,71,72,73,74] rfl) ?_
 simp only [List.cons_append,List.nil_append]
 refine vl_v (q_buildS (tot:=69) (sizes:=[1,1,32,34,1]) (c':=envC f t cm pub x.p n (.slice A54 (64+l.length) c54)) (by kernel_rfl) rfl rfl rfl rfl (by simp only [List.map_cons,List.map_nil,cellsL,Value.cells,lbm,lhd];rfl) (by simp only [flatV,cellsL,Value.cells,List.map_cons,List.map_nil,List.flatten_cons,List.flatten_nil,List.append_nil,envC];rfl)) rfl<|l_storeA 0 rfl rfl rfl sz37 (by with_reducible assumption) (by with_reducible first | exact bys_one _ | exact u32s_one _ | exact u64s_one _ | exact i64s_one _ | exact n64s_one _ | assumption) (by rfl) ?_
 simp only [List.set_cons_zero,List.set_cons_succ]
 refine vl_v (q_assign rfl) rfl<|vl_nil<|qn_n<|th_n<|VC_ret<|⟨_,resC2 0 rfl U37 rfl rfl rfl sz37 (by with_reducible assumption) rfl,?_⟩
 exact ⟨bl1,_,rfl,fun w' H=>St.pickR (R:=R) 13 H (ks:=[2,9,10,11]) (by decide) (by decide) rfl rfl⟩
theorem stS_ok {x:SeD} (h:x.ok) (b:Nat):SeD.ok { x with st:=vP b 0 }:=⟨h.root,h.own,h.o,h.s,h.r,rfl⟩
theorem mvD {S:List Nat} {w0 w:World} {a b:Res} {N T:List Res} (H:St S w0 (a::b::(N++T)) w):St S w0 (a::b::T) w :=
 H.sub (List.Sublist.cons_cons _ (List.Sublist.cons_cons _ (List.sublist_append_right N T)))
def RecvC (S:List Nat) (w0:World) (bs:Nat) (X:Nat→Nat→SkZ→SeD) (mo:List Value) (l:List UInt8) (L':List Ent) (R:List Res) (e:Ending) (w':World):Prop :=
 ∃ (a b:Nat) (z:SkZ) (v:Value),e=.returned (.tuple #[v,vN 0])∧MapOf z.2.2.1 (mapE L')∧St S w0 (.blk bs 145 (seC (X a b z)++mo)::.row 5 1 v l.length (bys l)::(SkO L' z++R)) w'
theorem recvA_calls {S:List Nat} {w0:World} {R:List Res} (bs:Nat) (x:SeD) (mo:List Value) (s q pub b l:List UInt8) (p n:Nat) (z:SkZ) (B C:Option Addr) (lb cb lc cc:Nat) (hx:x.ok) (ho0:x.o=nilP) (hr0:x.r=nilP) (hst:x.st=vP z.1 0) (hown:x.own=s++q) (ls:s.length=32) (lq:q.length=32) (hpub:pub.length=32) (hp:p≤1000) (hn:n<8) (hc0:comE (comB s pub)=0) (hE:MapOf z.2.2.1 (mapE [])) (hlb:lb=b.length) (hcb:lb≤cb) (hb:b.length≤1000) (hlc:lc=l.length+32) (hcc:lc≤cc) (hl:l.length≤1000) (hB:Rest S w0 R B b) (hC:Rest S w0 R C (closeW (msgK (chainN (chainN0 x.root (comB s pub)) n)) (asideB b pub p n) l)) (w:World) (H:St S w0 (.blk bs 145 (seC x++mo)::(SkO [] z++R)) w) :
 Calls Tryz.prog 40 #[vP bs 0,.slice B lb cb,.agg (headC pub p n).toArray,.slice C lc cc] w (RecvC S w0 bs (fun a b z=>metS { x with st:=vP z.1 0 } (comB s pub) (vP a 0) (vP b 0)) mo l (skL pub (chainN0 x.root (comB s pub)) n) R):=by
 have hm:=fun (bt:Nat) (z1:SkZ) (R1:List Res) (w1:World) hE1 H1=>messageA_calls (S:=S) (w0:=w0) (R:=R1) bt { x with st:=vP z1.1 0 } s q pub p n z1 (stS_ok hx z1.1) ho0 hr0 rfl hown ls lq hpub hn hc0 hE1 w1 H1
 dsimp only at hm
 have hmo:=fun (z1:SkZ) (a b:Nat)=>metS_ok (stS_ok hx z1.1) (comB s pub) a b
 obtain ⟨cm,hcm⟩:∃ c,comB s pub=c:=⟨_,rfl⟩
 rw [hcm] at hC hm hmo ⊢
 obtain ⟨c0,hc0'⟩:∃ c,chainN0 x.root cm=c:=⟨_,rfl⟩
 rw [hc0'] at hC hm ⊢
 have lmk:=msgK_length (chainN c0 n)
 obtain ⟨k,hk⟩:∃ c,msgK (chainN c0 n)=c:=⟨_,rfl⟩
 rw [hk] at hC hm lmk
 refine (recv_calls (L':=skL pub c0 n) (fun x' N z'=>(∃ a b:Nat,x'=metS { x with st:=vP z'.1 0 } cm (vP a 0) (vP b 0))∧MapOf z'.2.2.1 (mapE (skL pub c0 n))) bs x mo pub b l k p n z B C lb cb lc cc hx hst hpub lmk hp (by omega) hE ⟨by simp,by simp⟩ (by simp) hlb hcb hb hlc hcc hl hB hC (fun bt z1 R1 w1 hE1 H1=>(hm bt z1 R1 w1 hE1 H1).mono fun e w' h=>?_) w H).mono fun e w' h=>?_
 ·obtain ⟨bl,bh,o',A',c',h1,h2,h3⟩:=h
  exact ⟨metS { x with st:=vP z1.1 0 } cm (vP bl 0) (vP bh 0),_,(z1.1,z1.2.1,o',A',c'),h1,hmo z1 bl bh,⟨⟨bl,bh,rfl⟩,h2⟩,h3⟩
 ·obtain ⟨x',N,z',v,h1,h2,⟨⟨a,b',rfl⟩,h4⟩,h5⟩:=h
  exact ⟨a,b',z',v,h1,h4,mvD h5⟩
theorem recvB_calls {S:List Nat} {w0:World} {R:List Res} {L:List Ent} (bs:Nat) (x:SeD) (mo:List Value) (pub b l k:List UInt8) (p n:Nat) (z:SkZ) (B C:Option Addr) (lb cb lc cc:Nat) (hx:x.ok) (hst:x.st=vP z.1 0) (hpub:pub.length=32) (hk:k.length=32) (hp:p≤1000) (hn:n≤1000) (hLl:L.length≤100) (hG:GoodL (L++[⟨pub,(n:Int),k⟩])) (hE:MapOf z.2.2.1 (mapE (L++[⟨pub,(n:Int),k⟩]))) (hlb:lb=b.length) (hcb:lb≤cb) (hb:b.length≤1000) (hlc:lc=l.length+32) (hcc:lc≤cc) (hl:l.length≤1000) (hB:Rest S w0 R B b) (hC:Rest S w0 R C (closeW k (asideB b pub p n) l)) (w:World) (H:St S w0 (.blk bs 145 (seC x++mo)::(SkO (L++[⟨pub,(n:Int),k⟩]) z++R)) w) :
 Calls Tryz.prog 40 #[vP bs 0,.slice B lb cb,.agg (headC pub p n).toArray,.slice C lc cc] w (RecvC S w0 bs (fun _ _ z=>{ x with st:=vP z.1 0 }) mo l L R):=by
 refine (recv_calls (L':=L) (fun x' N z'=>x'={ x with st:=vP z'.1 0 }∧MapOf z'.2.2.1 (mapE L)) bs x mo pub b l k p n z B C lb cb lc cc hx hst hpub hk hp hn hE hG (by simp;omega) hlb hcb hb hlc hcc hl hB hC (fun bt z1 R1 w1 hE1 H1=>(messageB_calls bt { x with st:=vP z1.1 0 } pub k p n z1 (stS_ok hx z1.1) rfl hpub hk hn hLl hG hE1 w1 H1).mono fun e w' h=>?_) w H).mono fun e w' h=>?_
 ·obtain ⟨o',A',c',h1,h2,h3⟩:=h
  exact ⟨_,[],(z1.1,z1.2.1,o',A',c'),h1,stS_ok hx z1.1,⟨rfl,h2⟩,h3⟩
 ·obtain ⟨x',N,z',v,h1,h2,⟨rfl,h4⟩,h5⟩:=h
  exact ⟨0,0,z',v,h1,h4,mvD h5⟩
theorem cap_of {w:World} {T:TypeId} {size n c:Nat} {A:Option Addr} {xs:List Value} (h:Res.ok w (.row T size (.slice A n c) n xs)):n≤c:=by
 obtain ⟨A',c',e,h',_⟩:=Row.slice h
 cases e
 exact h'
theorem unwrap_calls {w0:World} {R:List Res} (bf bs f t:Nat) (x:SeD) (mo:List Value) (X:Nat→Nat→SkZ→SeD) (L L':List Ent) (z:SkZ) (pub o l bd:List UInt8) (p n:Nat) (C:Option Addr) (lc cc:Nat) (ho:o.length=32) (hpub:pub.length=32) (hft:f<8∧t<8) (hlc:lc=64+l.length) (hcc:lc≤cc) (hl:l.length≤250) (hC:Rest [] w0 R C bd)
 (hrec:∀ (S:List Nat) (w9:World) (R1:List Res) (B:Option Addr) (cb:Nat) (w1:World),46≤cb→Rest S w9 R1 B (besB t f (comitB o [numB t,numB f,l]))→Rest S w9 R1 C bd→St S w9 (.blk bs 145 (seC x++mo)::(SkO L z++R1)) w1→Calls Tryz.prog 40 #[vP bs 0,.slice B 46 cb,.agg (headC pub p n).toArray,.slice C lc cc] w1 (RecvC S w9 bs X mo (o++l) L' R1))
 (w:World) (H:St [] w0 ([.blk bf 85 (lineC f t bs),.blk bs 145 (seC x++mo)]++(SkO L z++R)) w) :
 Calls Tryz.prog 10 #[vP bf 0,.agg (envC t f (comitB o [numB t,numB f,l]) pub p n (.slice C lc cc)).toArray] w fun e w'=>∃ (a b:Nat) (z':SkZ) (v:Value),e=.returned (.tuple #[v,.agg (bys o).toArray,vN 0])∧MapOf z'.2.2.1 (mapE L')∧St [] w0 ([.blk bf 85 (lineC f t bs),.blk bs 145 (seC (X a b z')++mo),.row 5 1 v l.length (bys l)]++(SkO L' z'++R)) w':=by
 obtain ⟨bz,mz,oz,Az,cz⟩:=z
 have lcm:=comitB_length o [numB t,numB f,l]
 have hck:=fun (v0:Value) w1 h1=>ccheck_calls o [numB t,numB f,l] v0 ho (by simp) (by simp only [joinB,numB,List.length_append,highB_length,List.length_nil,List.length_cons];omega) w1 h1
 obtain ⟨cm,hcm⟩:∃ c,comitB o [numB t,numB f,l]=c:=⟨_,rfl⟩
 rw [hcm] at hck hrec lcm ⊢
 have lbe:=besB_length t f lcm
 have hbe:∀ w,Calls Tryz.prog 66 #[vN t,vN f,.agg (bys cm).toArray] w fun e w'=>∃ v,e=.returned v∧St [] w [.row 5 1 v 46 (bys (besB t f cm))] w':=fun w=>by have h:=beside_calls t f cm lcm w;rw [show joinB [numB t,numB f,cm]=besB t f cm from rfl,lbe] at h;exact h
 obtain ⟨be,hbe0⟩:∃ c,besB t f cm=c:=⟨_,rfl⟩
 rw [hbe0] at hbe hrec lbe
 have lbo:(bys o).length=32:=by rw [bys_length];exact ho
 have lbm:(bys cm).length=32:=by rw [bys_length];exact lcm
 have lhd:(headC pub (p:Int) (n:Int)).length=34:=headC_length hpub _ _
 have hv:=envC_f (f:=(t:Int)) (t:=(f:Int)) (p:=(p:Int)) (q:=(n:Int)) (sl:=.slice C lc cc) lcm hpub
 have lol:(o++l).length=32+l.length:=by rw [List.length_append,ho]
 have hup:=fun (A:Option Addr) (c:Nat) (hc:32+l.length≤c) w1 (h1:SlAt w1 A (bys (o++l)))=>(show Calls Tryz.prog 41 #[.slice A (32+l.length) c] w1 (fun e w'=>∃ x:Option Addr × Nat,e=.returned (.tuple #[.agg (bys o).toArray,.slice x.1 l.length x.2,vN 0])∧St [] w1 [bodyR 5 l x] w') from by
  obtain ⟨a,rfl⟩:=h1.some (by rw [bys_length,lol];omega)
  refine (cunpack_calls o l a _ c ho rfl hc (by omega) w1 h1).mono fun e w' h=>?_
  obtain ⟨v,h1,h2⟩:=h
  obtain ⟨A,c,rfl,_,_⟩:=Row.slice (h2.get (k:=0) rfl)
  exact ⟨(A,c),h1,h2⟩)
 refine enter (n:=84) (R:=fun e L1=>∃ (a b:Nat) (z':SkZ) (v:Value),e=.returned (.tuple #[v,.agg (bys o).toArray,vN 0])∧MapOf z'.2.2.1 (mapE L')∧∀ w',St [] w0 L1 w'→St [] w0 ([.blk bf 85 (lineC f t bs),.blk bs 145 (seC (X a b z')++mo),.row 5 1 v l.length (bys l)]++(SkO L' z'++R)) w') [vP bf 0,.agg (envC t f cm pub p n (.slice C lc cc)).toArray] F10 rfl rfl rfl H ?_ (fun e w' L1 h H=>by obtain ⟨a,b,z',v,h1,h2,h3⟩:=h;exact ⟨a,b,z',v,h1,h2,h3 w' H⟩)
 refine VC_seq<|VC_region<|l_boxA rfl rfl<|fun b3=>vl_v (q_assign rfl) rfl<|l_allocA zr33 rfl<|fun b5=>vl_v (q_assign rfl) rfl<|vl_nil<|th_n<|VC_seq<|VC_seq<|VC_drawV 16 [[],[0],[],[2],[3],[4],[5],[1,6],[7],[8],[9,8],[8],[11,8],[12,8],[13,8],[14,8],[10,15,8],[8,16]] [[],[0],[],[2],[2,3],[2,3,4],[2,3,4,5],[0,1,2,3,4,5,6],[0,1,2,3,4,5,6,7],[0,1,2,3,4,5,6,7,8],[0,1,2,3,4,5,6,7,8,9],[0,1,2,3,4,5,6,7,8],[0,1,2,3,4,5,6,7,8,11],[0,1,2,3,4,5,6,7,8,11,12],[0,1,2,3,4,5,6,7,8,11,12,13],[0,1,2,3,4,5,6,7,8,11,12,13,14],[0,1,2,3,4,5,6,7,8,9,10,11,12,13,14,15],[0,1,2,3,4,5,6,7,8,9,10,11,12,13,14,15,16]] rfl (by kernel_rfl)<|qv_v (q_fldA fo37_0 (by decide) rfl rfl) ?_
 refine qv_v (q_load 1 U3 rfl rfl rfl hv.g0)<|qv_v (q_move rfl)<|qv_v (q_nilck rfl)<|qv_v (q_fldA fo85_0 (by decide) rfl rfl)<|qv_v (q_fldA fo82_1 (by decide) rfl rfl)<|qv_v (q_load 2 U3 rfl rfl rfl rfl)<|qv_v (q_as (v:=.bool false) (q_neq_n U3 rfl rfl) (by rw [decide_eq_true rfl];rfl))<|qv_v (q_move rfl)<|qv_vg (rfl) (q_fldA fo37_1 (by decide) rfl rfl)<|qv_vg (rfl) (q_load 1 U3 rfl rfl rfl hv.g1)<|qv_vg (rfl) (q_move rfl)<|qv_vg (rfl) (q_nilck rfl) ?_
 refine qv_vg (rfl) (q_fldA fo85_0 (by decide) rfl rfl)<|qv_vg (rfl) (q_fldA fo82_0 (by decide) rfl rfl)<|qv_vg (rfl) (q_load 2 U3 rfl rfl rfl rfl)<|qv_end<|VL.keep (kp [0,1,3,4,5,6,20,22,27] rfl)<|vl_vg rfl (q_as (v:=.bool false) (q_neq_n U3 rfl rfl) (by rw [decide_eq_true rfl];rfl)) rfl<|vl_v (q_pickF rfl rfl) rfl<|vl_nil<|qn_n<|th_n<|VC_no (rfl)<|VC_skip<|th_n ?_
 refine VC_seq<|VC_frame (X:=[_,_,_,_,_,_,_]) (fun w9 H9=>?_)
 refine VC_drawQ 24 7 [[],[0],[1],[2],[],[4],[5],[6],[],[8],[],[10],[],[12],[7,9,11,13],[],[15],[],[17],[3,14,16,18],[19],[20],[20],[21,19,0,1,2,3,4,5,6,7,8,9,10,11,12,13,14,15,16,17,18,20],[22,23,0,1,2,3,4,5,6,7,8,9,10,11,12,13,14,15,16,17,18,19,20,21]] [[],[0],[0,1],[0,1,2],[],[4],[4,5],[4,5,6],[],[8],[],[10],[],[12],[4,5,6,7,8,9,10,11,12,13],[],[15],[],[17],[0,1,2,3,4,5,6,7,8,9,10,11,12,13,14,15,16,17,18],[0,1,2,3,4,5,6,7,8,9,10,11,12,13,14,15,16,17,18,19],[0,1,2,3,4,5,6,7,8,9,10,11,12,13,14,15,16,17,18,19,20],[0,1,2,3,4,5,6,7,8,9,10,11,12,13,14,15,16,17,18,19,20],[0,1,2,3,4,5,6,7,8,9,10,11,12,13,14,15,16,17,18,19,20,21],[0,1,2,3,4,5,6,7,8,9,10,11,12,13,14,15,16,17,18,19,20,21,22,23]] [([],[],[],[0,1,2,3,4,5,6],[]),([0],[],[],[0,1,2,3,4,5,6],[0]),([0,1],[],[],[0,1,2,3,4,5,6],[0,1]),([0,1,2],[],[],[0,1,2,3,4,5,6],[0,1,2]),([],[],[],[0,1,2,3,4,5,6],[]),([4],[],[],[0,1,2,3,4,5,6],[4]),([4,5],[],[],[0,1,2,3,4,5,6],[4,5]),([4,5,6],[],[],[0,1,2,3,4,5,6],[4,5,6]),([],[],[],[0,1,2,3,4,5,6],[]),([8],[],[],[0,1,2,3,4,5,6],[8]),([],[],[],[0,1,2,3,4,5,6],[]),([10],[],[],[0,1,2,3,4,5,6],[10]),([],[],[],[0,1,2,3,4,5,6],[]),([12],[],[],[0,1,2,3,4,5,6],[12]),([4,5,6,7,8,9,10,11,12,13],[],[],[0,1,2,3,4,5,6],[4,5,6,7,8,9,10,11,12,13]),([],[],[],[0,1,2,3,4,5,6],[]),([15],[],[],[0,1,2,3,4,5,6],[15]),([],[],[],[0,1,2,3,4,5,6],[]),([17],[],[],[0,1,2,3,4,5,6],[17]),([0,1,2,3,4,5,6,7,8,9,10,11,12,13,14,15,16,17,18],[3,4,5,6],[],[0,1,2],[0,1,2,3,4,5,6,7,8,9,10,11,12,13,14,15,16,17,18]),([0,1,2,3,4,5,6,7,8,9,10,11,12,13,14,15,16,17,18,19],[],[],[0,1,2],[0,1,2,3,4,5,6,7,8,9,10,11,12,13,14,15,16,17,18,19]),([0,1,2,3,4,5,6,7,8,9,10,11,12,13,14,15,16,17,18,19,20],[],[],[0,1,2],[0,1,2,3,4,5,6,7,8,9,10,11,12,13,14,15,16,17,18,19,20]),([0,1,2,3,4,5,6,7,8,9,10,11,12,13,14,15,16,17,18,19,20],[],[],[0,1,2],[0,1,2,3,4,5,6,7,8,9,10,11,12,13,14,15,16,17,18,19,20]),([0,1,2,3,4,5,6,7,8,9,10,11,12,13,14,15,16,17,18,19,20,21],[],[],[0,1,2],[0,1,2,3,4,5,6,7,8,9,10,11,12,13,14,15,16,17,18,19,20,21])] [0,1,2] [0,1,2,3,4,5,6,7,8,9,10,11,12,13,14,15,16,17,18,19,20,21,22,23] rfl rfl (by kernel_rfl)<|qp_v (fun xs gs hx=>q_move rfl)<|qp_v (fun xs gs hx=>q_nilck rfl)<|qp_v (fun xs gs hx=>q_fldA fo85_1 (by decide) rfl rfl)<|qp_v (fun xs gs hx=>q_load 2 U65 rfl rfl rfl rfl)<|qp_v (fun xs gs hx=>q_move rfl)<|qp_v (fun xs gs hx=>q_nilck rfl)<|qp_v (fun xs gs hx=>q_fldA fo85_2 (by decide) rfl rfl)<|qp_v (fun xs gs hx=>q_load 2 U83 rfl rfl rfl rfl)<|qp_v (fun xs gs hx=>q_fldA fo37_0 (by decide) rfl rfl)<|qp_v (fun xs gs hx=>q_load 1 U3 rfl rfl rfl hv.g0)<|qp_v (fun xs gs hx=>q_fldA fo37_1 (by decide) rfl rfl) ?_
 refine qp_v (fun xs gs hx=>q_load 1 U3 rfl rfl rfl hv.g1)<|qp_v (fun xs gs hx=>q_fldA fo37_2 (by decide) rfl rfl)<|qp_v (fun xs gs hx=>q_loadsAt 1 U33 rfl rfl rfl sz33 hv.g2 lbm)<|qp_a (fun xs gs hx=>q_cloR (caps:=[]) rfl F66 rfl rfl rfl (fun w1 H1=>hbe w1))<|qp_v (fun xs gs hx=>q_fldA fo37_3 (by decide) rfl rfl)<|qp_v (fun xs gs hx=>q_loadsAt 1 U35 rfl rfl rfl sz35 hv.g3 lhd)<|qp_v (fun xs gs hx=>q_fldA fo37_4 (by decide) rfl rfl)<|qp_v (fun xs gs hx=>q_load 1 U22 rfl rfl rfl hv.g4) ?_
 refine qp_callE (fun xs gs v g=>MapOf (decZ L' (d3 g).2.2).2.2.1 (mapE L')∧∃ A c,v=.tuple #[.slice A (32+l.length) c,vN 0]∧32+l.length≤c) (fun xs gs v g=>.blk bs 145 (seC (X (dNat (d3 g).1) (dNat (d3 g).2.1) (decZ L' (d3 g).2.2))++mo)::.row 5 1 (tupAt v 0) (32+l.length) (bys (o++l))::SkO L' (decZ L' (d3 g).2.2)) F40 rfl rfl (args:=fun xs gs=>[vP bs 0,xs 14,.agg (headC pub p n).toArray,.slice C lc cc]) (fun xs gs hx=>rfl) (fun xs gs hx R1 w1 H1=>(by
  obtain ⟨A46,c46,e46,h46,_⟩:=hx.1 rfl
  have e46:xs 14=.slice A46 46 c46:=e46
  have hr:=hrec _ _ _ A46 c46 w1 h46 (Rest.row (T:=5) (v:=xs 14) (n:=46) 3 rfl e46) (hC.frame H9) H1
  show Calls _ _ #[vP bs 0,xs 14,.agg (headC pub p n).toArray,.slice C lc cc] w1 _
  rw [e46]
  refine hr.mono fun e w' h=>?_
  obtain ⟨a,b,z',v,h1,h2,h3⟩:=h
  rw [lol] at h3
  obtain ⟨A,c,e9,h9,_⟩:=Row.slice (h3.get (k:=1) rfl)
  subst e9
  obtain ⟨gz,hgz⟩:=skz_ghost z' h2
  refine ⟨_,.tuple #[gNat a,gNat b,gz],h1,(by intro h;cases h),⟨by rw [dg3];dsimp only;rw [hgz];exact h2,A,c,rfl,h9⟩,?_⟩
  rw [dg3]
  dsimp only
  rw [hgz,dgNat,dgNat]
  exact h3)) ?_
 refine qp_v (fun xs gs hx=>q_move rfl)<|qp_v (fun xs gs hx=>q_extX rfl (by obtain ⟨_,A9,c9,e9,_⟩:=hx.2.1 rfl;exact ⟨_,_,e9,rfl⟩))<|qp_v (f:=fun _ _=>vN 0) (fun xs gs hx=>?_) ?_
 ·obtain ⟨_,A9,c9,e9,_⟩:=hx.2.1 rfl
  exact q_ext (vs:=#[.slice A9 (32+l.length) c9,vN 0]) (congrArg some e9) rfl
 refine qp_v (fun xs gs hx=>q_assign rfl)<|qp_end<|fun xs gs hx=>?_
 obtain ⟨f46,f51,_⟩:=hx
 simp only [selI,ownsA,List.contains_cons,List.contains_nil,Nat.reduceBEq,Nat.reduceAdd,Bool.or_false,Bool.or_true,Bool.false_or,Bool.true_or,mask,nRow,nBlk,nRowT,tupAt_0,tupAt_1,List.append_assoc,List.nil_append,List.append_nil,List.cons_append,List.singleton_append]
 obtain ⟨hE1,A51,c51,e51,h51⟩:=f51
 simp only [e51,tupAt_0]
 obtain ⟨a1,ha1⟩:∃ q,dNat (d3 (gs 19)).1=q:=⟨_,rfl⟩
 obtain ⟨b1,hb1⟩:∃ q,dNat (d3 (gs 19)).2.1=q:=⟨_,rfl⟩
 obtain ⟨z1,hz1⟩:∃ q,decZ L' (d3 (gs 19)).2.2=q:=⟨_,rfl⟩
 rw [ha1,hb1,hz1]
 rw [hz1] at hE1
 obtain ⟨z2,z3,z4,z5,z6⟩:=z1
 simp only [SkO,SkR,List.cons_append,List.nil_append]
 refine VL.keep (kp [0,1,3,4,5,6,29,53,7] rfl)<|vl_v (q_assign rfl) rfl<|vl_nil<|qn_n<|th_n<|VC_seq<|VC_seq<|VC_region<|vl_v (q_move rfl) rfl<|vl_v (q_as (v:=.bool false) (q_neq_k U29 rfl rfl) (by simp)) rfl<|vl_nil<|th_n<|VC_no (rfl) ?_
 refine VC_skip<|th_n<|VC_seq<|VC_region ?_
 simp only [List.cons_append,List.nil_append]
 refine vl_v (q_move rfl) rfl<|l_callG F41 rfl rfl rfl (fun w1 H1=>hup A51 c51 h51 w1 (Reads.row 5 rfl w1 H1)) rfl<|fun x60=>?_
 obtain ⟨A60,c60⟩:=x60
 dsimp only [bodyR]
 refine vl_v (q_move rfl) rfl<|vl_v (q_ext rfl rfl) rfl<|vl_v (q_ext rfl rfl) rfl<|vl_v (q_ext rfl rfl) rfl<|l_allocA zr33 rfl<|fun b9=>l_storeA 0 rfl rfl rfl sz33 (by with_reducible assumption) (by with_reducible first | exact bys_one _ | exact u32s_one _ | exact u64s_one _ | exact i64s_one _ | exact n64s_one _ | assumption) (by rfl) ?_
 simp only [List.set_cons_zero,List.set_cons_succ]
 refine vl_v (q_assign rfl) rfl<|vl_v (q_assign rfl) rfl<|vl_nil<|th_n<|VC_seq<|VC_seq<|VC_region<|vl_v (q_move rfl) rfl<|vl_v (q_as (v:=.bool false) (q_neq_k U29 rfl rfl) (by simp)) rfl<|vl_nil<|th_n<|VC_no (rfl) ?_
 refine VC_skip<|th_n<|VC_seq<|VC_seq<|VC_frame (X:=[_,_,_,_,_,_,_,_,_,_,_]) (fun w9 H9=>?_)
 refine VC_drawQ 9 11 [[],[0],[],[],[3],[],[5],[],[4,6,7],[1,2,8],[9,0,1,2,3,4,5,6,7,8]] [[],[0],[],[],[3],[],[5],[],[3,4,5,6,7],[0,1,2,3,4,5,6,7,8],[0,1,2,3,4,5,6,7,8,9]] [([],[],[],[0,1,2,3,4,5,6,7,8,9,10],[]),([0],[],[],[0,1,2,3,4,5,6,7,8,9,10],[0]),([],[],[],[0,1,2,3,4,5,6,7,8,9,10],[]),([],[],[],[0,1,2,3,4,5,6,7,8,9,10],[]),([3],[],[],[0,1,2,3,4,5,6,7,8,9,10],[3]),([],[],[],[0,1,2,3,4,5,6,7,8,9,10],[]),([5],[],[],[0,1,2,3,4,5,6,7,8,9,10],[5]),([],[],[],[0,1,2,3,4,5,6,7,8,9,10],[]),([3,4,5,6,7],[],[],[0,1,2,3,4,5,6,7,8,9,10],[3,4,5,6,7])] [0,1,2,3,4,5,6,7,8,9,10] [0,1,2,3,4,5,6,7,8] rfl rfl (by kernel_rfl)<|qp_v (fun xs gs hx=>q_fldA fo37_2 (by decide) rfl rfl)<|qp_v (fun xs gs hx=>q_loadsAt 3 U33 rfl rfl rfl sz33 hv.g2 lbm)<|qp_v (fun xs gs hx=>q_loads 0 U33 rfl rfl rfl sz33 (by with_reducible assumption))<|qp_v (fun xs gs hx=>q_fldA fo37_0 (by decide) rfl rfl)<|qp_v (fun xs gs hx=>q_load 3 U3 rfl rfl rfl hv.g0)<|qp_v (fun xs gs hx=>q_fldA fo37_1 (by decide) rfl rfl)<|qp_v (fun xs gs hx=>q_load 3 U3 rfl rfl rfl hv.g1)<|qp_v (fun xs gs hx=>q_move rfl)<|qp_callE (fun xs gs v g=>v=.slice (some ⟨dNat (d3 g).2.2,0,none⟩) 3 3) (fun xs gs v g=>fRows t f (.slice A60 l.length c60) (d3 g)) F28 rfl rfl (args:=fun xs gs=>[vN t,vN f,.slice A60 l.length c60]) (fun xs gs hx=>rfl) (fun xs gs hx R w1 H1=>(frowsz_calls t f l A60 l.length c60 w1).mono fun e w' h=>(by obtain ⟨g,h1,h2⟩:=h;exact ⟨_,g,h1,(by intro h;cases h),rfl,(H1.join h2).perm List.perm_append_comm⟩))<|qp_end<|fun xs gs hx=>?_
 obtain ⟨f76,_⟩:=hx
 simp only [selI,ownsA,List.contains_cons,List.contains_nil,Nat.reduceBEq,Nat.reduceAdd,Bool.or_false,Bool.or_true,Bool.false_or,Bool.true_or,mask,nRow,nBlk,nRowT,tupAt_0,tupAt_1,List.append_assoc,List.nil_append,List.append_nil,List.cons_append,List.singleton_append]
 simp only [f76]
 obtain ⟨z9,hz9⟩:∃ z,d3 (gs 8)=z:=⟨_,rfl⟩
 rw [hz9]
 refine VL.keep (kp [0,1,3,4,5,6,29,7,8,55,9,10,65,69,70,76] rfl)<|vl_v (q_callV F16 rfl rfl rfl (fun w1 H1=>hck _ w1 (fRows_at rfl (cap_of (H1.get (k:=1) rfl)) (fun r hr=>H1.ok r (List.mem_append_right [_,_,_,_,_,_,_,_,_,_,_] hr)) (Reads.row 1 rfl w1 H1)))) rfl<|vl_v (q_assign rfl) rfl<|vl_nil<|qn_n<|th_n<|VC_seq<|VC_region<|vl_v (q_move rfl) rfl<|vl_v (q_as (v:=.bool false) (q_neq_k U29 rfl rfl) (by simp)) rfl<|vl_nil<|th_n<|VC_no (rfl) ?_
 refine VC_skip<|th_n<|VC_seq ?_
 simp only [fRows,List.cons_append,List.nil_append]
 refine VC_drawV 3 [[],[],[0],[1,2,0],[3,0,1,2]] [[],[],[0],[0,1,2],[0,1,2,3]] rfl (by kernel_rfl)<|qv_v (q_move rfl)<|qv_v (q_loads 0 U33 rfl rfl rfl sz33 (by with_reducible assumption))<|qv_v (q_assign rfl)<|qv_end<|VL.keep (kp [0,1,3,4,5,6,29,7,8,55,9,10,65,11,79,83] rfl)<|l_storeA 2 rfl rfl rfl sz33 (by with_reducible assumption) (by with_reducible first | exact bys_one _ | exact u32s_one _ | exact u64s_one _ | exact i64s_one _ | exact n64s_one _ | assumption) (by rfl) ?_
 simp only [List.set_cons_zero,List.set_cons_succ]
 refine vl_v (q_assign rfl) rfl<|vl_nil<|qn_n<|th_n<|VC_ret<|⟨_,resTCT 2 rfl rfl U33 rfl rfl rfl sz33 (by with_reducible assumption) rfl,?_⟩
 exact ⟨a1,b1,(z2,z3,z4,z5,z6),_,rfl,hE1,fun w' H=>St.pickR (R:=R) 14 H (ks:=[4,6,1,8,9,10]) (by decide) (by decide) rfl rfl⟩
end Go.Proofs.YtfpdnpppcoomnaaGreat
namespace Go.PBYtfpdnpppcoomnaaGreat
open Go Go.RowKit
structure StN where
 e:Nat
 f:Nat
 t:Nat
 ti:Nat
 cm:List UInt8
 tg:List UInt8
structure StN.ok (x:StN):Prop where
 e:x.e≤1000000
 f:x.f<8
 t:x.t<8
 ti:x.ti≤1000000
 cm:x.cm.length=32
 tg:x.tg.length=32
def stN (x:StN):List Value:=[vN x.e,vN x.f,vN x.t,vN x.ti]++(bys x.cm++bys x.tg)
structure StNF (c:List Value) (x:StN):Prop where
 len:c.length=68
 g0:c[0]?=some (vN x.e)
 g1:c[1]?=some (vN x.f)
 g2:c[2]?=some (vN x.t)
 g3:c[3]?=some (vN x.ti)
 g4:(c.drop 4).take 32=bys x.cm
 g5:(c.drop 36).take 32=bys x.tg
 one:∀ u∈c,u.oneCell'=true
 w4:∀ v:List UInt8,v.length=32→splice c 4 (bys v)=stN { x with cm:=v }
 w5:∀ v:List UInt8,v.length=32→splice c 36 (bys v)=stN { x with tg:=v }
theorem stN_f {x:StN} (h1:x.cm.length=32) (h2:x.tg.length=32):StNF (stN x) x:=by
 obtain ⟨e,f,t,ti,cm,tg⟩:=x
 obtain ⟨u,rfl⟩:=ofFn_of h1
 obtain ⟨v,rfl⟩:=ofFn_of h2
 clear h1 h2
 refine ⟨rfl,rfl,rfl,rfl,rfl,rfl,rfl,?_,?_,?_⟩
 ·intro w hw
  rcases List.mem_append.1 hw with hw | hw
  ·exact one_all rfl w hw
  ·rcases List.mem_append.1 hw with hw | hw
   ·exact bys_one _ w hw
   ·exact bys_one _ w hw
 ·intro w hw
  obtain ⟨g,rfl⟩:=ofFn_of hw
  rfl
 ·intro w hw
  obtain ⟨g,rfl⟩:=ofFn_of hw
  rfl
def stB (x:StN):List UInt8:=highB x.e 4++[UInt8.ofNat x.f,UInt8.ofNat x.t]++highB x.ti 4++x.cm++x.tg
end Go.PBYtfpdnpppcoomnaaGreat
namespace Go.Proofs.YtfpdnpppcoomnaaGreat
open Go Go.RowKit Go.PBYtfpdnpppcoomnaaGreat
theorem stB_length {x:StN} (h:x.ok):(stB x).length=74:=by simp only [stB,List.length_append,highB_length,List.length_cons,List.length_nil,h.cm,h.tg]
theorem time_calls (m:Nat) (hm:m≤1000000) (w:World):Calls Tryz.prog 42 #[vN m] w fun e w'=>e=.returned (.bool true)∧Kept [] w w':=by
 refine enter (n:=9) (R:=fun e L=>e=.returned (.bool true)) [vN m] F42 rfl rfl rfl (St.refl w) ?_ (fun e w' L' h H=>⟨h,H.kept⟩)
 refine VC_seq<|VC_region<|vl_v (q_assign rfl) rfl<|vl_nil<|th_n<|VC_seq<|VC_region<|vl_v (q_move rfl) rfl<|vl_v (q_as (v:=.bool true) (q_geq_n (q:=0) U3 rfl rfl) (by simp)) rfl<|vl_v (q_move rfl) rfl<|vl_vg rfl (q_move rfl) rfl<|vl_vg rfl (q_as (v:=.bool true) (q_leq_n (q:=1000000) U3 rfl rfl) (by simp;omega)) rfl ?_
 refine vl_v (q_pickT rfl rfl) rfl<|vl_v (q_assign rfl) rfl<|vl_nil<|th_n<|VC_ret<|⟨_,res1 rfl rfl,?_⟩
 exact rfl
theorem account_calls (m:Nat) (hm:m<8) (w:World):Calls Tryz.prog 43 #[vN m] w fun e w'=>e=.returned (.bool true)∧Kept [] w w':=by
 refine enter (n:=9) (R:=fun e L=>e=.returned (.bool true)) [vN m] F43 rfl rfl rfl (St.refl w) ?_ (fun e w' L' h H=>⟨h,H.kept⟩)
 refine VC_seq<|VC_region<|vl_v (q_assign rfl) rfl<|vl_nil<|th_n<|VC_seq<|VC_region<|vl_v (q_move rfl) rfl<|vl_v (q_as (v:=.bool true) (q_geq_n (q:=0) U3 rfl rfl) (by simp)) rfl<|vl_v (q_move rfl) rfl<|vl_vg rfl (q_move rfl) rfl<|vl_vg rfl (q_as (v:=.bool true) (q_lss_n (q:=8) U3 rfl rfl) (by simp;omega)) rfl ?_
 refine vl_v (q_pickT rfl rfl) rfl<|vl_v (q_assign rfl) rfl<|vl_nil<|th_n<|VC_ret<|⟨_,res1 rfl rfl,?_⟩
 exact rfl
theorem sright_calls (x:StN) (h:x.ok) (w:World):Calls Tryz.prog 80 #[.agg (stN x).toArray] w fun e w'=>e=.returned (.bool true)∧Kept [] w w':=by
 have hf:=stN_f h.cm h.tg
 refine enter (n:=21) (R:=fun e L=>e=.returned (.bool true)) [.agg (stN x).toArray] F80 rfl rfl rfl (St.refl w) ?_ (fun e w' L' h H=>⟨h,H.kept⟩)
 refine VC_seq<|VC_region<|l_boxA rfl rfl<|fun b1=>vl_v (q_assign rfl) rfl<|vl_nil<|th_n<|VC_seq<|VC_region<|vl_v (q_fldA fo46_0 (by decide) rfl rfl) rfl<|vl_v (q_load 0 U3 rfl rfl rfl hf.g0) rfl<|vl_v (q_callV F42 rfl rfl rfl (fun w1 H1=>time_calls x.e h.e w1)) rfl<|vl_v (q_move rfl) rfl ?_
 refine vl_vg rfl (q_fldA fo46_3 (by decide) rfl rfl) rfl<|vl_vg rfl (q_load 0 U3 rfl rfl rfl hf.g3) rfl<|vl_vg rfl (q_callV F42 rfl rfl rfl (fun w1 H1=>time_calls x.ti h.ti w1)) rfl<|vl_v (q_pickT rfl rfl) rfl<|vl_v (q_move rfl) rfl<|vl_vg rfl (q_fldA fo46_1 (by decide) rfl rfl) rfl<|vl_vg rfl (q_load 0 U3 rfl rfl rfl hf.g1) rfl<|vl_vg rfl (q_callV F43 rfl rfl rfl (fun w1 H1=>account_calls x.f h.f w1)) rfl<|vl_v (q_pickT rfl rfl) rfl<|vl_v (q_move rfl) rfl<|vl_vg rfl (q_fldA fo46_2 (by decide) rfl rfl) rfl<|vl_vg rfl (q_load 0 U3 rfl rfl rfl hf.g2) rfl ?_
 refine vl_vg rfl (q_callV F43 rfl rfl rfl (fun w1 H1=>account_calls x.t h.t w1)) rfl<|vl_v (q_pickT rfl rfl) rfl<|vl_v (q_assign rfl) rfl<|vl_nil<|th_n<|VC_ret<|⟨_,res1 rfl rfl,?_⟩
 exact rfl
theorem sbytes_calls (x:StN) (h:x.ok) (w:World):Calls Tryz.prog 46 #[.agg (stN x).toArray] w fun e w'=>∃ v,e=.returned (.tuple #[v,vN 0])∧St [] w [.row 5 1 v 74 (bys (stB x))] w':=by
 have hf:=stN_f h.cm h.tg
 have hrc:=fun w=>sright_calls x h w
 have he0:=h.e
 have hti0:=h.ti
 have l1:=highB_length x.e 4
 have l2:=highB_length x.ti 4
 have hb:stB x=highB x.e 4++[UInt8.ofNat x.f,UInt8.ofNat x.t]++highB x.ti 4++x.cm++x.tg:=rfl
 rw [hb]
 obtain ⟨u1,hu1⟩:∃ u,highB x.e 4=u:=⟨_,rfl⟩
 obtain ⟨u2,hu2⟩:∃ u,highB x.ti 4=u:=⟨_,rfl⟩
 rw [hu1] at l1
 rw [hu2] at l2
 rw [hu1,hu2]
 have lxl:=hf.len
 have lbc:(bys x.cm).length=32*1:=by rw [bys_length,h.cm]
 have lbt:(bys x.tg).length=32*1:=by rw [bys_length,h.tg]
 refine enter (n:=33) (R:=fun e L=>∃ v,e=.returned (.tuple #[v,vN 0])∧∀ w',St [] w L w'→St [] w [.row 5 1 v 74 (bys (u1++[UInt8.ofNat x.f,UInt8.ofNat x.t]++u2++x.cm++x.tg))] w') [.agg (stN x).toArray] F46 rfl rfl rfl (St.refl w) ?_ (fun e w' L' h H=>by obtain ⟨v,h1,h2⟩:=h;exact ⟨v,h1,h2 w' H⟩)
 refine VC_seq<|VC_region<|l_boxA rfl rfl<|fun b1=>vl_v (q_assign rfl) rfl<|vl_v (q_assign rfl) rfl<|vl_nil<|th_n<|VC_seq<|VC_seq<|VC_region<|vl_v (q_loads 0 U46 rfl rfl rfl sz46 lxl) rfl<|vl_v (q_callV F80 rfl rfl rfl (fun w1 H1=>hrc w1)) rfl ?_
 refine vl_v (q_not rfl) rfl<|vl_nil<|th_n<|VC_no (rfl)<|VC_skip<|th_n<|VC_seq<|VC_drawM 11 [[],[0],[1],[2],[],[4],[5],[],[7],[8],[6,9],[3,10],[11,0,1,2,3,4,5,6,7,8,9,10]] [[],[0],[0,1],[0,1,2],[],[4],[4,5],[],[7],[7,8],[4,5,6,7,8,9],[0,1,2,3,4,5,6,7,8,9,10],[0,1,2,3,4,5,6,7,8,9,10,11]] rfl (by kernel_rfl)<|qm_v (fun xs hx=>q_fldA fo46_0 (by decide) rfl rfl)<|qm_v (fun xs hx=>q_load 0 U3 rfl rfl rfl hf.g0)<|qm_v (fun xs hx=>q_conv_nw U3 U78 rfl (by omega))<|qm_a (fun xs hx=>q_callR F26 rfl rfl rfl (fun w1 H1=>hu1 ▸ high_calls x.e 4 4 rfl (by omega) w1)) ?_
 refine qm_v (fun xs hx=>q_fldA fo46_1 (by decide) rfl rfl)<|qm_v (fun xs hx=>q_load 0 U3 rfl rfl rfl hf.g1)<|qm_v (fun xs hx=>q_conv_nu8 U3 U5 rfl)<|qm_v (fun xs hx=>q_fldA fo46_2 (by decide) rfl rfl)<|qm_v (fun xs hx=>q_load 0 U3 rfl rfl rfl hf.g2)<|qm_v (fun xs hx=>q_conv_nu8 U3 U5 rfl)<|qm_a (fun xs hx=>q_litA (cs:=bys [_,_]) U22 in5 (by decide) rfl rfl rfl rfl (by exact one_all rfl) rfl)<|qm_end<|fun xs hx=>?_
 obtain ⟨⟨A11,c11,e11,hc11,hm11⟩,⟨b18,e18⟩,_⟩:=hx
 simp only [e11]
 simp only [e18]
 simp only [resT,nRow,nBlk,nRowT,tupAt_0,List.append_assoc,List.nil_append,List.append_nil,List.cons_append,List.singleton_append,e11,e18]
 refine VL.keep (kp [0,1,2,3,7,11,18] rfl) ?_
 refine l_append 0 rfl rfl rfl U22 U22 in5 rfl (by decide) (Reads.row 1 rfl) (by simp only [zs,zr,zm,za,zb,zu,zw,zi,n64s_length,zt,zd,zc,zn, *]<;>first | done | omega) (by with_reducible first | exact bys_one _ | exact u32s_one _ | exact u64s_one _ | exact i64s_one _ | exact n64s_one _ | assumption) (by omega) (by omega) rfl ?_
 intro A19 c19 hc19
 simp only [List.set_cons_zero,List.set_cons_succ,← bys_append,← u32s_append,← u64s_append,← i64s_append,List.nil_append,Nat.zero_add]
 refine vl_v (q_assign rfl) rfl<|vl_nil<|qn_n<|th_n<|VC_seq<|VC_region<|vl_v (q_move rfl) rfl<|vl_v (q_fldA fo46_3 (by decide) rfl rfl) rfl<|vl_v (q_load 2 U3 rfl rfl rfl hf.g3) rfl<|vl_v (q_conv_nw U3 U78 rfl (by omega)) rfl<|l_callR F26 rfl rfl rfl (fun w1 H1=>hu2 ▸ high_calls x.ti 4 4 rfl (by omega) w1) rfl<|fun A24 c24 hc24 hm24=>l_append 1 rfl rfl rfl U22 U22 in5 rfl (by decide) (Reads.row 0 rfl) (by simp only [zb,zu,zw,zi,n64s_length,za];omega) (by with_reducible first | exact bys_one _ | exact u32s_one _ | exact u64s_one _ | exact i64s_one _ | exact n64s_one _ | assumption) (by omega) (by omega) rfl<|fun A25 c25 hc25=>?_
 simp only [List.set_cons_zero,List.set_cons_succ,← bys_append,← u32s_append,← u64s_append,← i64s_append,List.nil_append,Nat.zero_add]
 refine vl_v (q_assign rfl) rfl<|vl_nil<|th_n<|VC_seq<|VC_drawQ 6 4 [[],[],[1],[0,2],[],[4],[3,5],[6,0,1,2,3,4,5],[7,0,1,2,3,4,5,6]] [[],[],[1],[0,1,2],[],[4],[0,1,2,3,4,5],[0,1,2,3,4,5,6],[0,1,2,3,4,5,6,7]] [([],[],[],[0,1,2,3],[]),([],[],[],[0,1,2,3],[]),([1],[],[],[0,1,2,3],[1]),([0,1,2],[1],[],[0,2,3],[0,1,2]),([],[],[],[0,2,3],[]),([4],[],[],[0,2,3],[4])] [0,2,3] [0,1,2,3,4,5] rfl rfl (by kernel_rfl)<|qp_v (fun xs gs hx=>q_move rfl)<|qp_v (fun xs gs hx=>q_fldA fo46_4 (by decide) rfl rfl) ?_
 refine qp_v (fun xs gs hx=>q_slcA U33 sz5 rfl rfl rfl rfl (.inl rfl) (by omega) (by omega) (by omega) (by omega) (by (try simp only [Nat.mul_one,Nat.zero_add,Nat.zero_mul,Nat.mul_zero,Nat.add_zero])<;>rfl)) ?_
 refine qp_append U22 U22 in5 rfl (by decide) (fun xs gs hx=>rfl) (fun xs gs hx=>rfl) (fun xs gs hx=>⟨_,_,rfl,Reads.blkTake 2 4 32 rfl hf.g4⟩) (fun xs gs hx=>by first | omega | with_reducible assumption | (simp only [zb,zu,zw,zi,n64s_length,za];omega) | (simp only [zs,zr,zm,za,zb,zu,zw,zi,n64s_length,zt,zd,zc,zn, *]<;>first | done | omega) | rfl) (fun xs gs hx=>by first | (with_reducible first | exact bys_one _ | exact u32s_one _ | exact u64s_one _ | exact i64s_one _ | exact n64s_one _ | assumption) | exact bys_one _ | exact u32s_one _ | exact u64s_one _ | exact i64s_one _ | exact one_all rfl | (refine app_one ?_ ?_<;>first | exact bys_one _ | exact one_all rfl | (simp;done))) (by omega) (by omega) ?_
 refine qp_v (fun xs gs hx=>q_fldA fo46_5 (by decide) rfl rfl) ?_
 refine qp_v (fun xs gs hx=>q_slcA U33 sz5 rfl rfl rfl rfl (.inl rfl) (by omega) (by omega) (by omega) (by omega) (by (try simp only [Nat.mul_one,Nat.zero_add,Nat.zero_mul,Nat.mul_zero,Nat.add_zero])<;>rfl)) ?_
 refine qp_end<|fun xs gs hx=>?_
 obtain ⟨⟨A29,c29,e29,hc29,hm29⟩,_⟩:=hx
 simp only [selI,ownsA,List.contains_cons,List.contains_nil,Nat.reduceBEq,Nat.reduceAdd,Bool.or_false,Bool.or_true,Bool.false_or,Bool.true_or,mask,nRow,nBlk,nRowT,tupAt_0,tupAt_1,List.append_assoc,List.nil_append,List.append_nil,List.cons_append,List.singleton_append,e29]
 refine VL.keep (kp [0,1,2,3,7,4,29,31] rfl)<|l_append 3 rfl rfl rfl U22 U22 in5 rfl (by decide) (Reads.blkTake 2 36 32 rfl hf.g5) (by omega) (by with_reducible first | exact bys_one _ | exact u32s_one _ | exact u64s_one _ | exact i64s_one _ | exact n64s_one _ | assumption) (by omega) (by omega) rfl<|fun A32 c32 hc32=>?_
 simp only [List.set_cons_zero,List.set_cons_succ,← bys_append,← u32s_append,← u64s_append,← i64s_append,List.nil_append,Nat.zero_add]
 refine vl_v (q_assign rfl) rfl<|vl_v (q_assign rfl) rfl<|vl_nil<|qn_n<|th_n<|VC_ret<|⟨_,res2 rfl rfl rfl,?_⟩
 exact ⟨_,rfl,fun w' H=>by simpa [bys_append,List.append_assoc] using St.pick H (ks:=[3]) (by decide) rfl⟩
def z32b:List UInt8:=List.replicate 32 0
theorem z32b_length:z32b.length=32:=by simp [z32b]
structure StBF (l:List UInt8) (x:StN):Prop where
 g0:(l.take 4).take 8=highB x.e 4
 g1:l[4]?=some (UInt8.ofNat x.f)
 g2:l[5]?=some (UInt8.ofNat x.t)
 g3:((l.drop 6).take 4).take 8=highB x.ti 4
 g4:(l.drop 10).take 32=x.cm
 g5:(l.drop 42).take 32=x.tg
theorem stB_f {x:StN} (h1:x.cm.length=32) (h2:x.tg.length=32):StBF (stB x) x:=by
 obtain ⟨e,f,t,ti,cm,tg⟩:=x
 have l1:=highB_length e 4
 have l2:=highB_length ti 4
 refine (fun (u1 u2:List UInt8) (k1:highB e 4=u1) (k2:highB ti 4=u2)=>?_:∀ u1 u2:List UInt8,highB e 4=u1→highB ti 4=u2→_) _ _ rfl rfl
 rw [k1] at l1
 rw [k2] at l2
 obtain ⟨a,rfl⟩:=ofFn_of h1
 obtain ⟨b,rfl⟩:=ofFn_of h2
 obtain ⟨c,rfl⟩:=ofFn_of l1
 obtain ⟨d,rfl⟩:=ofFn_of l2
 unfold stB
 refine ⟨?_,?_,?_,?_,?_,?_⟩<;>dsimp only<;>(try rw [k1])<;>(try rw [k2])<;>rfl
theorem sread_calls (x:StN) (h:x.ok) (A:Option Addr) (m c:Nat) (hm:m=74) (hc:m≤c) (w:World) (hA:SlAt w A (bys (stB x))):Calls Tryz.prog 82 #[.slice A m c] w fun e w'=>e=.returned (.tuple #[.agg (stN x).toArray,vN 0])∧Kept [] w w':=by
 subst hm
 have ll:=stB_length h
 have hb:=stB_f h.cm h.tg
 have hrc:=fun w=>sright_calls x h w
 have he0:=h.e
 have hti0:=h.ti
 have hf0:=h.f
 have ht0:=h.t
 have e0:ofHigh (highB x.e 4)=x.e:=by rw [ofHigh_highB];omega
 have e3:ofHigh (highB x.ti 4)=x.ti:=by rw [ofHigh_highB];omega
 obtain ⟨l,hl⟩:∃ l,stB x=l:=⟨_,rfl⟩
 rw [hl] at ll hb hA
 have hx0:=stN_f (x:=⟨x.e,x.f,x.t,x.ti,z32b,z32b⟩) z32b_length z32b_length
 have hx1:=stN_f (x:=⟨x.e,x.f,x.t,x.ti,x.cm,z32b⟩) h.cm z32b_length
 have hx2:=stN_f h.cm h.tg
 have lxl:=hx2.len
 have ox2:=hx2.one
 have lbc:(bys x.cm).length=32:=by rw [bys_length,h.cm]
 have lbt:(bys x.tg).length=32:=by rw [bys_length,h.tg]
 have k1:(l.take 4).length=4:=by rw [List.length_take];omega
 have k2:((l.drop 6).take 4).length=4:=by rw [List.length_take,List.length_drop];omega
 have o1:∀ w1,SlAt w1 A (bys (l.take 4))→Calls Tryz.prog 75 #[.slice A 4 c] w1 fun e w'=>e=.returned (.int .u64 (x.e:Int))∧Kept [] w1 w':=fun w1 h1=>by
  have h:=ofHigh_calls (l.take 4) A c w1 h1 (by omega) (by omega)
  rw [k1,hb.g0,e0] at h
  exact h.mono fun e w' h=>⟨h.1,h.2 ▸ Kept.refl _ _⟩
 have o2:∀ w1 B,SlAt w1 B (bys ((l.drop 6).take 4))→Calls Tryz.prog 75 #[.slice B 4 (c-6)] w1 fun e w'=>e=.returned (.int .u64 (x.ti:Int))∧Kept [] w1 w':=fun w1 B h1=>by
  have h:=ofHigh_calls ((l.drop 6).take 4) B (c-6) w1 h1 (by omega) (by omega)
  rw [k2,hb.g3,e3] at h
  exact h.mono fun e w' h=>⟨h.1,h.2 ▸ Kept.refl _ _⟩
 have a1:∀ w1 L,St [] w L w1→SlAt w1 A (bys (l.take 4)):=fun w1 L H1=>by rw [← bys_take];exact (H1.sl0 hA).take 4
 have aD:∀ (k:Nat) w1 L,St [] w L w1→SlAt w1 (adv A k c 1) (bys (l.drop k)):=fun k w1 L H1=>Reads.adv (Reads.old hA) (by rw [bys_length];omega) (by rw [Nat.mul_one,bys_drop]) w1 H1
 obtain ⟨a,rfl⟩:=hA.some (by rw [bys_length];omega)
 have e10:adv (some a) 10 c 1=some (a.add 10):=by unfold adv;rw [if_neg (by omega)];rfl
 have e42:adv (some a) 42 c 1=some (a.add 42):=by unfold adv;rw [if_neg (by omega)];rfl
 have p4:((bys (l.drop 10)).drop 0).take 32=bys x.cm:=by rw [List.drop_zero,bys_take,hb.g4]
 have p5:((bys (l.drop 42)).drop 0).take 32=bys x.tg:=by rw [List.drop_zero,bys_take,hb.g5]
 refine enter (n:=46) (R:=fun e L=>e=.returned (.tuple #[.agg (stN x).toArray,vN 0])) [.slice (some a) 74 c] F82 rfl rfl rfl (St.refl w) ?_ (fun e w' L' h H=>⟨h,H.kept⟩)
 refine VC_seq<|VC_region<|l_allocA zr46 rfl<|fun b2=>vl_v (q_assign rfl) rfl<|vl_nil<|th_n<|VC_seq<|VC_seq<|VC_region<|vl_v (q_move rfl) rfl<|vl_v (q_lenS U22 rfl) rfl<|vl_v (q_as (v:=.bool false) (q_lss_n (q:=74) U3 rfl rfl) (by simp)) rfl ?_
 refine vl_nil<|th_n<|VC_no (rfl)<|VC_skip<|th_n<|VC_seq<|VC_drawM 18 [[],[0],[1],[2],[],[4],[5],[6],[],[8],[9],[10],[],[12],[13,2],[14],[3,7,11,15],[],[17,16,14,0,1,2,3,4,5,6,7,8,9,10,11,12,13,15]] [[],[0],[0,1],[0,1,2],[],[4],[4,5],[4,5,6],[],[8],[8,9],[8,9,10],[],[12],[0,1,2,12,13],[0,1,2,12,13,14],[0,1,2,3,4,5,6,7,8,9,10,11,12,13,14,15],[],[0,1,2,3,4,5,6,7,8,9,10,11,12,13,14,15,16,17]] rfl (by kernel_rfl)<|qm_v (fun xs hx=>q_move rfl)<|qm_v (fun xs hx=>q_slcS0 (h:=4) U22 sz5 rfl ⟨_,rfl⟩ rfl (.inl rfl) (by omega) (by omega))<|qm_v (fun xs hx=>q_callV F75 rfl rfl rfl (fun w1 H1=>o1 w1 (a1 w1 _ H1)))<|qm_v (fun xs hx=>q_conv_nn U78 U3 rfl (by omega))<|qm_v (fun xs hx=>q_move rfl) ?_
 refine qm_v (fun xs hx=>q_idxRd (m:=4) U22 sz5 rfl rfl (by omega) (Reads.old hA) (by rw [bys_length];omega))<|qm_v (fun xs hx=>q_loadRd U5 rfl rfl (Reads.old hA) (v:=.int .u8 (x.f:Int)) (by simp [bys,hb.g1,vU8];omega))<|qm_v (fun xs hx=>q_conv_nn U5 U3 rfl (by omega))<|qm_v (fun xs hx=>q_move rfl)<|qm_v (fun xs hx=>q_idxRd (m:=5) U22 sz5 rfl rfl (by omega) (Reads.old hA) (by rw [bys_length];omega))<|qm_v (fun xs hx=>q_loadRd U5 rfl rfl (Reads.old hA) (v:=.int .u8 (x.t:Int)) (by simp [bys,hb.g2,vU8];omega))<|qm_v (fun xs hx=>q_conv_nn U5 U3 rfl (by omega))<|qm_v (fun xs hx=>q_move rfl)<|qm_v (fun xs hx=>q_slcS (l:=6) (h:=10) U22 sz5 rfl ⟨_,rfl⟩ ⟨_,rfl⟩ rfl (.inl rfl) (by omega) (by omega) (by omega))<|qm_v (fun xs hx=>q_callV F75 rfl rfl rfl (fun w1 H1=>o2 w1 _ (by rw [← bys_take];exact (aD 6 w1 _ H1).take 4)))<|qm_v (fun xs hx=>q_conv_nn U78 U3 rfl (by omega))<|qm_v (fun xs hx=>q_build (c':=stN ⟨x.e,x.f,x.t,x.ti,z32b,z32b⟩) rfl (by kernel_rfl)) ?_
 refine qm_a (fun xs hx=>q_alloc zr46 rfl)<|qm_end<|fun xs hx=>?_
 obtain ⟨⟨b4,e4⟩,_⟩:=hx
 simp only [e4]
 simp only [resT,nRow,nBlk,nRowT,tupAt_0,List.append_assoc,List.nil_append,List.append_nil,List.cons_append,List.singleton_append,e4]
 refine VL.keep (kp [0,2,3,7,25,4] rfl)<|l_storeA 0 rfl rfl rfl sz46 (by rfl) (by exact one_all rfl) (by rfl) ?_
 simp only [List.set_cons_zero,List.set_cons_succ]
 refine vl_nil<|qn_n<|th_n<|VC_seq<|VC_drawQ 10 2 [[],[0],[1],[2],[],[4],[5],[6],[0,1,2,3],[8,3,0,1,2],[0,1,2,3,4,5,6,7,8,9],[10,7,9,0,1,2,3,4,5,6,8]] [[],[0],[0,1],[0,1,2],[],[4],[4,5],[4,5,6],[0,1,2,3],[0,1,2,3,8],[0,1,2,3,4,5,6,7,8,9],[0,1,2,3,4,5,6,7,8,9,10]] [([],[],[],[0,1],[]),([0],[],[],[0,1],[0]),([0,1],[],[],[0,1],[0,1]),([0,1,2],[],[],[0,1],[0,1,2]),([],[],[],[1],[]),([4],[],[],[1],[4]),([4,5],[],[],[1],[4,5]),([4,5,6],[],[],[1],[4,5,6]),([0,1,2,3],[],[],[0,1],[0,1,2,3]),([0,1,2,3,8],[0],[],[1],[0,1,2,3,8])] [1] [0,1,2,3,4,5,6,7,8,9] rfl rfl (by kernel_rfl)<|qp_v (fun xs gs hx=>q_move rfl)<|qp_v (fun xs gs hx=>q_as (v:=.slice (some (a.add 10)) (42-10) (c-10)) (q_slcS (l:=10) (h:=42) U22 sz5 rfl ⟨_,rfl⟩ ⟨_,rfl⟩ rfl (.inl rfl) (by omega) (by omega) (by omega)) (by rw [e10]))<|qp_v (fun xs gs hx=>q_s2a U33 rfl (by omega))<|qp_v (fun xs gs hx=>q_loadsRd U33 rfl sz33 rfl (fun w1 H1=>e10 ▸ aD 10 w1 _ H1) p4 lbc (by omega))<|qp_v (fun xs gs hx=>q_move rfl)<|qp_v (fun xs gs hx=>q_as (v:=.slice (some (a.add 42)) (74-42) (c-42)) (q_slcS (l:=42) (h:=74) U22 sz5 rfl ⟨_,rfl⟩ ⟨_,rfl⟩ rfl (.inl rfl) (by omega) (by omega) (by omega)) (by rw [e42]))<|qp_v (fun xs gs hx=>q_s2a U33 rfl (by omega))<|qp_v (fun xs gs hx=>q_loadsRd U33 rfl sz33 rfl (fun w1 H1=>e42 ▸ aD 42 w1 _ H1) p5 lbt (by omega)) ?_
 refine qp_v (fun xs gs hx=>q_fldA fo46_4 (by decide) rfl rfl)<|qp_storeC (j:=4) (c:=fun _ _=>stN ⟨x.e,x.f,x.t,x.ti,z32b,z32b⟩) (c':=fun _ _=>stN ⟨x.e,x.f,x.t,x.ti,x.cm,z32b⟩) (vs:=fun _ _=>bys x.cm) (v:=fun _ _=>.agg (bys x.cm).toArray) (fun xs gs hx=>rfl) (fun xs gs hx=>rfl) (fun xs gs hx=>rfl) (fun xs gs hx=>rfl) sz33 (fun xs gs hx=>lbc) (fun xs gs hx=>bys_one _) (fun xs gs hx=>by rw [hx0.len];omega) (fun xs gs hx=>hx0.w4 x.cm h.cm)<|qp_end<|fun xs gs hx=>?_
 obtain ⟨fw9,_⟩:=hx
 simp only [selI,ownsA,List.contains_cons,List.contains_nil,Nat.reduceBEq,Nat.reduceAdd,Bool.or_false,Bool.or_true,Bool.false_or,Bool.true_or,mask,nRow,nBlk,nRowT,tupAt_0,tupAt_1,List.append_assoc,List.nil_append,List.append_nil,List.cons_append,List.singleton_append]
 refine VL.keep (kp [0,2,3,7,4,33] rfl)<|vl_v (q_fldA fo46_5 (by decide) rfl rfl) rfl<|l_storeG 1 rfl rfl rfl sz33 lbt (bys_one _) (by rw [hx1.len];omega) ?_
 simp only [List.set_cons_zero,List.set_cons_succ]
 rw [hx1.w5 x.tg h.tg]
 refine vl_nil<|qn_n<|th_n<|VC_seq<|VC_seq<|VC_region<|vl_v (q_move rfl) rfl<|vl_v (q_lenS U22 rfl) rfl<|vl_v (q_as (v:=.bool false) (q_gtr_n (q:=74) U3 rfl rfl) (by simp)) rfl<|vl_v (q_move rfl) rfl<|vl_vg rfl (q_loads 1 U46 rfl rfl rfl sz46 lxl) rfl<|vl_vg rfl (q_callV F80 rfl rfl rfl (fun w1 H1=>hrc w1)) rfl<|vl_vg rfl (q_not rfl) rfl ?_
 refine vl_v (q_pickF rfl rfl) rfl<|vl_nil<|th_n<|VC_no (rfl)<|VC_skip<|th_n<|VC_seq<|VC_region<|vl_v (q_loads 1 U46 rfl rfl rfl sz46 lxl) rfl<|l_storeA 0 rfl rfl rfl sz46 (by with_reducible assumption) (by with_reducible first | exact bys_one _ | exact u32s_one _ | exact u64s_one _ | exact i64s_one _ | exact n64s_one _ | assumption) (by rfl) ?_
 simp only [List.set_cons_zero,List.set_cons_succ]
 refine vl_v (q_assign rfl) rfl<|vl_nil<|th_n<|VC_ret<|⟨_,resC2 0 rfl U46 rfl rfl rfl sz46 (by with_reducible assumption) rfl,?_⟩
 exact rfl
end Go.Proofs.YtfpdnpppcoomnaaGreat
namespace Go.PBYtfpdnpppcoomnaaGreat
open Go Go.RowKit Go.MapKept Go.ChangeMaps
section
variable {P : Program} {kt : TypeId}
theorem ikey_find (hk:P.underlying kt=some (.int .i64)) (n:Int) (es:List MapEntry) (hall:∀ e∈es,∃ m,e.key=vI m) (w:World):((Instr.findKey kt (vI n) es).run P w=.ok none w∧∀ e∈es,e.key≠vI n)∨∃ j e,(Instr.findKey kt (vI n) es).run P w=.ok (some (j,e.val)) w∧es[j]?=some e∧e.key=vI n:=by
 rcases findNow_spec (d:=.int .i64) (k:=vI n) rfl es 0 (fun x hx=>by obtain ⟨m,hm⟩:=hall x hx;rw [hm];rfl) with ⟨h1,h2⟩ | ⟨j,e0,h1,h2,h3⟩
 ·exact .inl ⟨run_findKey hk h1,h2⟩
 ·exact .inr ⟨j,e0,by simpa using run_findKey hk h1,h2,h3⟩
end
section
variable {P : Program} {S : List Nat} {w0 w : World} {L : List Res} {Q : Exit → Act → World → Prop} {a : Act} {dst : Option Tmp} {ty : TypeId} {pos : String} {af : Array Edge} {g : Option (Nat × Bool)}
theorem opw_lookI {K:Act→World→Prop} {t kt et:TypeId} {x y:Operand} {b:Nat} {o:Obj} {E:List (Value × Value)} {z:Value} {n:Int} {i:TypeInfo} (hkt:P.underlying kt=some (.int .i64)) (hu:P.underlying t=some (.map kt et)) (hi:P.info? et=some i) (hz:i.zero=some z)
 (ho:w.heap[b]?=some o) (hE:MapOf o E) (hx:a.eval x=.map (some b)) (hy:a.eval y=vI n) (hall:∀ p∈E,∃ m,p.1=vI m)
 (hno:(∀ p∈E,p.1≠vI n)→K (a.put dst (.tuple #[z,.bool false])) w) (hyes:∀ (j:Nat) v,E[j]?=some (vI n,v)→K (a.put dst (.tuple #[v,.bool true])) w) :
 Oper.wp P { dst,op:=.lookup t x y true,type:=ty,pos,after:=af,guard:=g } a w K Q:=by
 obtain ⟨es,clock,rfl,hE⟩:=hE
 have hzw:(zeroValue et).run P w=.ok z w:=by simp [zeroValue,typeInfo,hi,hz]
 have hal:∀ e∈es.toList,∃ m,e.key=vI m:=fun e he=>hall (e.key,e.val) (by rw [← hE];exact List.mem_map.2 ⟨e,he,rfl⟩)
 have hck:∀ em,(Instr.checkKey em 10000 kt (vI n)).run P w=.ok () w:=fun em=>run_checkKey hkt (d:=.int .i64) (k:=vI n) rfl em 9999
 rcases ikey_find hkt n es.toList hal w with ⟨h1,h2⟩ | ⟨j,e0,h1,h2,h3⟩
 ·exact opw_val (v:=.tuple #[z,.bool false]) (w':=w) (by simp [execOp,hx,hy,Instr.lookup,run_underlying hu,MapKept.run_getObj_map ho,hck,h1,hzw,Result.andThen]) (hno (MapOf.no hE h2))
 ·refine opw_val (v:=.tuple #[e0.val,.bool true]) (w':=w) (by simp [execOp,hx,hy,Instr.lookup,run_underlying hu,MapKept.run_getObj_map ho,hck,h1,hzw,Result.andThen]) (hyes j e0.val ?_)
  rw [MapOf.get hE h2,h3]
theorem opw_updateI {K:Act→World→Prop} {t kt et:TypeId} {x y u:Operand} {b k:Nat} {o:Obj} {E:List (Value × Value)} {n:Int} {v:Value} (hkt:P.underlying kt=some (.int .i64)) (hu:P.underlying t=some (.map kt et))
 (H:St S w0 L w) (hk:L[k]?=some (.obj b o)) (hE:MapOf o E) (hx:a.eval x=.map (some b)) (hy:a.eval y=vI n) (hv:a.eval u=v) (hall:∀ p∈E,∃ m,p.1=vI m)
 (hno:∀ p∈E,p.1≠vI n) (h:∀ w' o',MapOf o' (E++[(vI n,v)])→St S w0 (L.set k (.obj b o')) w'→K (a.put dst undef) w') :
 Oper.wp P { dst,op:=.mapUpdate t x y u,type:=ty,pos,after:=af,guard:=g } a w K Q:=by
 obtain ⟨es,clock,rfl,hE⟩:=hE
 have ho:w.heap[b]?=some (.map es clock):=H.ok _ (List.mem_of_getElem? hk)
 have hlt:b<w.heap.size:=(Array.getElem?_eq_some_iff.1 ho).1
 have hal:∀ e∈es.toList,∃ m,e.key=vI m:=fun e he=>hall (e.key,e.val) (by rw [← hE];exact List.mem_map.2 ⟨e,he,rfl⟩)
 have hck:(Instr.checkKey false 10000 kt (vI n)).run P w=.ok () w:=run_checkKey hkt (d:=.int .i64) (k:=vI n) rfl false 9999
 rcases ikey_find hkt n es.toList hal w with ⟨h1,h2⟩ | ⟨j,e0,h1,h2,h3⟩
 ·refine opw_skip (w':=setBlock w b (.map (es.push ⟨vI n,v,clock⟩) (clock+1))) (by simp [execOp,hx,hy,hv,Instr.mapUpdate,run_underlying hu,MapKept.run_getObj_map ho,hck,h1,MapKept.run_setObj_map _ ho,Result.andThen,setBlock])<|h _ (.map (es.push ⟨vI n,v,clock⟩) (clock+1)) ⟨_,_,rfl,by simp [hE]⟩ (H.change hk (grownBy_setBlock w b _) (setBlock_at hlt) (fun b' hb'=>.inl hb'))
 ·exact absurd h3 (hno (e0.key,e0.val) (List.mem_of_getElem? (MapOf.get hE h2)))
end
section
variable {P : Program} {n : Nat} {S : List Nat} {w0 : World} {ops : Array Oper} {Q : QE} {rest : List Oper} {d : Tmp} {ty : TypeId} {pos : String} {af : Array Edge} {g : Option (Nat × Bool)} {env : Env} {L : List Res}
theorem q_lookI0 {t kt et:TypeId} {x y:Operand} {b:Nat} {o:Obj} {z:Value} {m:Int} (k:Nat) (hkt:P.underlying kt=some (.int .i64)) (hu:P.underlying t=some (.map kt et)) (hi:(P.info? et).map (·.zero)=some (some z)) (hk:L[k]?=some (.obj b o)) (hE:MapOf o []) (hx:evalE env x=some (.map (some b))) (hy:evalE env y=some (vI m)) :
 QT P n S w0 { dst:=some d,op:=.lookup t x y true,type:=ty,pos,after:=af,guard:=g } env L (.val (.tuple #[z,.bool false])) :=
 ⟨fun a w hm H=>by
  cases hi':P.info? et with
  | none=>rw [hi'] at hi;simp at hi
  | some i =>
   have hz:i.zero=some z:=by rw [hi'] at hi;simpa using hi
   exact opw_lookI hkt hu hi' hz (H.ok _ (List.mem_of_getElem? hk)) hE (hm.eval hx) (hm.eval hy) (by simp) (fun _=>⟨_,rfl,fun h=>by simp at h,rfl,St.refl w⟩) (fun j v hj=>by simp at hj)⟩
theorem q_lookI1 {t kt et:TypeId} {x y:Operand} {b:Nat} {o:Obj} {z v:Value} {m:Int} (k:Nat) (hkt:P.underlying kt=some (.int .i64)) (hu:P.underlying t=some (.map kt et)) (hi:(P.info? et).map (·.zero)=some (some z)) (hk:L[k]?=some (.obj b o)) (hE:MapOf o [(vI m,v)]) (hx:evalE env x=some (.map (some b))) (hy:evalE env y=some (vI m)) :
 QT P n S w0 { dst:=some d,op:=.lookup t x y true,type:=ty,pos,after:=af,guard:=g } env L (.val (.tuple #[v,.bool true])) :=
 ⟨fun a w hm H=>by
  cases hi':P.info? et with
  | none=>rw [hi'] at hi;simp at hi
  | some i =>
   have hz:i.zero=some z:=by rw [hi'] at hi;simpa using hi
   refine opw_lookI hkt hu hi' hz (H.ok _ (List.mem_of_getElem? hk)) hE (hm.eval hx) (hm.eval hy) (by intro p hp;rw [List.mem_singleton.1 hp];exact ⟨_,rfl⟩) (fun h=>absurd rfl (h (vI m,v) List.mem_cons_self)) (fun j u hj=>?_)
   match j,hj with
   | 0,hj =>
    obtain rfl:v=u:=by simpa using hj
    exact ⟨_,rfl,fun h=>by simp at h,rfl,St.refl w⟩
   | j+1,hj=>simp at hj⟩
theorem l_updateI {t kt et:TypeId} {x y u:Operand} {b:Nat} {o:Obj} {E:List (Value × Value)} {m:Int} {v:Value} (k:Nat) (hkt:P.underlying kt=some (.int .i64)) (hu:P.underlying t=some (.map kt et)) (hx:evalE env x=some (.map (some b))) (hy:evalE env y=some (vI m)) (hv:evalE env u=some v)
 (hk:L[k]?=some (.obj b o)) (hE:MapOf o E) (hall:∀ p∈E,∃ m,p.1=vI m) (hno:∀ p∈E,p.1≠vI m)
 (h:∀ o',MapOf o' (E++[(vI m,v)])→VL P n S w0 ops Q rest env (L.set k (.obj b o'))) :
 VL P n S w0 ops Q ({ dst:=none,op:=.mapUpdate t x y u,type:=ty,pos,after:=af,guard:=none }::rest) env L :=
 vl_run trivial fun a w hm H=>opw_updateI hkt hu H hk hE (hm.eval hx) (hm.eval hy) (hm.eval hv) hall hno fun w' o' h1 h2=>(h o' h1).run _ w' hm h2
end
end Go.PBYtfpdnpppcoomnaaGreat
namespace Go.Proofs.YtfpdnpppcoomnaaGreat
open Go Go.RowKit Go.PBYtfpdnpppcoomnaaGreat
theorem fo74_0:fieldOff Tryz.prog 74 0=some (0,1):=by kernel_rfl
theorem fo74_1:fieldOff Tryz.prog 74 1=some (1,1):=by kernel_rfl
theorem fo74_2:fieldOff Tryz.prog 74 2=some (2,1):=by kernel_rfl
theorem szF:(Tryz.prog.info? 72).map (·.size)=some 1:=by kernel_rfl
def relC (ticks m bv bk:Nat):List Value:=[vN ticks,.map (some m),.func (.func 24) #[] #[vP bv 0,vP bk 0]]
def RelR (br bv bk m:Nat) (o:Obj) (ticks:Nat) (root:List UInt8):List Res:=[.blk br 74 (relC ticks m bv bk),.blk bv 28 [vP br 0],.blk bk 33 (bys root),.obj m o]
def relE (ep:Nat) (k:List UInt8) (b:Bool):List (Value × Value):=if b then [(vN ep,.agg (bys k).toArray)] else []
def epK (root:List UInt8) (ep:Nat):List UInt8:=macB root (highB ep 4)
theorem snew16_calls {w0:World} {R:List Res} (root:List UInt8) (ticks:Nat) (h1:1≤ticks) (h2:ticks≤1000000) (w:World) (H:St [] w0 R w) :
 Calls Tryz.prog 6 #[.agg (bys root).toArray,vN ticks] w fun e w'=>∃ (br bv bk m:Nat) (o:Obj),e=.returned (.tuple #[vP br 0,vN 0])∧MapOf o []∧St [] w0 (RelR br bv bk m o ticks root++R) w':=by
 refine enter (n:=22) (R:=fun e L=>∃ (br bv bk m:Nat) (o:Obj),e=.returned (.tuple #[vP br 0,vN 0])∧MapOf o []∧∀ w',St [] w0 L w'→St [] w0 (RelR br bv bk m o ticks root++R) w') [.agg (bys root).toArray,vN ticks] F6 rfl rfl rfl H ?_ (fun e w' L' h H=>by obtain ⟨br,bv,bk,m,o,h1,h2,h3⟩:=h;exact ⟨br,bv,bk,m,o,h1,h2,h3 w' H⟩)
 refine VC_seq<|VC_region<|l_boxA rfl rfl<|fun b2=>vl_v (q_assign rfl) rfl<|vl_v (q_assign rfl) rfl<|vl_nil<|th_n<|VC_seq<|VC_seq<|VC_region<|vl_v (q_move rfl) rfl<|vl_v (q_as (v:=.bool false) (q_lss_n (q:=1) U3 rfl rfl) (by simp;omega)) rfl ?_
 refine vl_v (q_move rfl) rfl<|vl_vg rfl (q_move rfl) rfl<|vl_vg rfl (q_as (v:=.bool false) (q_gtr_n (q:=1000000) U3 rfl rfl) (by simp;omega)) rfl<|vl_v (q_pickF rfl rfl) rfl<|vl_nil<|th_n<|VC_no (rfl)<|VC_skip<|th_n<|VC_seq<|VC_region<|vl_v (q_move rfl) rfl ?_
 refine l_makeMap rfl<|fun bM oM hE=>vl_v (q_build (c':=[vN ticks,.map (some bM),.nilFunc]) rfl (by kernel_rfl)) rfl<|l_boxA rfl rfl<|fun b16=>l_alloc1 zr28 rfl rfl<|fun b6=>l_store1 0 rfl rfl rfl sz28 rfl (by decide) ?_
 simp only [List.set_cons_zero,List.set_cons_succ]
 refine vl_nil<|th_n<|VC_seq<|VC_region<|vl_v (q_load 0 U28 rfl rfl rfl rfl) rfl<|vl_v (q_makeFunc rfl) rfl<|vl_v (q_nilck rfl) rfl<|vl_v (q_fldA fo74_2 (by decide) rfl rfl) rfl<|l_store1 1 rfl rfl rfl szF rfl (by show 2<3;omega) ?_
 simp only [List.set_cons_zero,List.set_cons_succ]
 refine vl_nil<|th_n<|VC_seq<|VC_region<|vl_v (q_load 0 U28 rfl rfl rfl rfl) rfl<|vl_v (q_assign rfl) rfl<|vl_v (q_assign rfl) rfl<|vl_nil<|th_n<|VC_ret<|⟨_,res2 rfl rfl rfl,?_⟩
 exact ⟨b16,b6,b2,bM,oM,rfl,hE,fun w' H=>St.pickR (R:=R) 4 H (ks:=[1,0,3,2]) (by decide) (by decide) rfl rfl⟩
theorem relkey_calls {S:List Nat} {w0:World} {R:List Res} (br bv bk m ep ticks:Nat) (o:Obj) (root:List UInt8) (kn:Bool) (hr:root.length=32) (hep:ep≤1000000) (hE:MapOf o (relE ep (epK root ep) kn)) (w:World) (H:St S w0 (RelR br bv bk m o ticks root++R) w) :
 Calls Tryz.prog 24 #[vN ep,vP bv 0,vP bk 0] w fun e w'=>∃ o':Obj,e=.returned (.agg (bys (epK root ep)).toArray)∧MapOf o' (relE ep (epK root ep) true)∧St S w0 (RelR br bv bk m o' ticks root++R) w':=by
 have hdc:=fun B lb cb w1 h1 h2 h3=>draw_calls root (highB ep 4) B lb cb hr h1 (by rw [highB_length];omega) w1 h2 h3
 have lhb:=highB_length ep 4
 have lek:(epK root ep).length=32:=macB_length ..
 have hek:macB root (highB ep 4)=epK root ep:=rfl
 rw [hek] at hdc
 obtain ⟨k,hk⟩:∃ k,epK root ep=k:=⟨_,rfl⟩
 rw [hk] at hdc lek hE ⊢
 obtain ⟨hb,hhb⟩:∃ k,highB ep 4=k:=⟨_,rfl⟩
 rw [hhb] at hdc lhb
 have hhc:∀ w,Calls Tryz.prog 26 #[.int .u64 ep,.int .i64 4] w fun e w'=>∃ v,e=.returned v∧St [] w [.row 5 1 v 4 (bys hb)] w':=fun w=>hhb ▸ high_calls ep 4 4 rfl (by omega) w
 have lbk:(bys k).length=32:=by rw [bys_length];exact lek
 have lbr:(bys root).length=32:=by rw [bys_length];exact hr
 cases kn with
 | true =>
  have hE:MapOf o [(vI (ep:Int),.agg (bys k).toArray)]:=hE
  refine enter (n:=30) (R:=fun e L=>e=.returned (.agg (bys k).toArray)∧∀ w',St S w0 L w'→St S w0 (RelR br bv bk m o ticks root++R) w') [vN ep,vP bv 0,vP bk 0] F24 rfl rfl rfl H ?_ (fun e w' L' h H=>⟨o,h.1,hE,h.2 w' H⟩)
  refine VC_seq<|VC_region<|l_allocA zr33 rfl<|fun b4=>vl_nil<|th_n<|VC_seq<|VC_region<|vl_v (q_load 2 U28 rfl rfl rfl rfl) rfl<|vl_v (q_nilck rfl) rfl<|vl_v (q_fldA fo74_1 (by decide) rfl rfl) rfl<|vl_v (q_load 1 U71 rfl rfl rfl rfl) rfl<|vl_v (q_move rfl) rfl ?_
  refine vl_v (q_lookI1 4 U3 U71 keyInfo rfl hE rfl rfl) rfl<|vl_v (q_move rfl) rfl<|vl_v (q_ext rfl rfl) rfl<|vl_v (q_ext rfl rfl) rfl<|l_allocA zr33 rfl<|fun b5=>l_storeA 0 rfl rfl rfl sz33 (by with_reducible assumption) (by with_reducible first | exact bys_one _ | exact u32s_one _ | exact u64s_one _ | exact i64s_one _ | exact n64s_one _ | assumption) (by rfl) ?_
  simp only [List.set_cons_zero,List.set_cons_succ]
  refine vl_v (q_assign rfl) rfl<|vl_nil<|th_n<|VC_seq<|VC_seq<|VC_region<|vl_v (q_move rfl) rfl<|vl_v (q_not rfl) rfl<|vl_nil<|th_n<|VC_no (rfl)<|VC_skip ?_
  refine th_n<|VC_seq<|VC_region<|vl_v (q_loads 0 U33 rfl rfl rfl sz33 (by with_reducible assumption)) rfl<|l_storeA 1 rfl rfl rfl sz33 (by with_reducible assumption) (by with_reducible first | exact bys_one _ | exact u32s_one _ | exact u64s_one _ | exact i64s_one _ | exact n64s_one _ | assumption) (by rfl) ?_
  simp only [List.set_cons_zero,List.set_cons_succ]
  refine vl_nil<|th_n<|VC_ret<|⟨_,resC1 1 rfl U33 rfl rfl rfl sz33 (by with_reducible assumption),?_⟩
  exact ⟨rfl,fun w' H=>St.pickR (R:=R) 6 H (ks:=[2,3,4,5]) (by decide) (by decide) rfl rfl⟩
 | false =>
  have hE:MapOf o []:=hE
  have lbz:(bys zKey).length=32:=by rw [bys_length,zKey_length]
  refine enter (n:=30) (R:=fun e L=>∃ o':Obj,e=.returned (.agg (bys k).toArray)∧MapOf o' (relE ep k true)∧∀ w',St S w0 L w'→St S w0 (RelR br bv bk m o' ticks root++R) w') [vN ep,vP bv 0,vP bk 0] F24 rfl rfl rfl H ?_ (fun e w' L' h H=>by obtain ⟨o',h1,h2,h3⟩:=h;exact ⟨o',h1,h2,h3 w' H⟩)
  refine VC_seq<|VC_region<|l_allocA zr33 rfl<|fun b4=>vl_nil<|th_n<|VC_seq<|VC_region<|vl_v (q_load 2 U28 rfl rfl rfl rfl) rfl<|vl_v (q_nilck rfl) rfl<|vl_v (q_fldA fo74_1 (by decide) rfl rfl) rfl<|vl_v (q_load 1 U71 rfl rfl rfl rfl) rfl<|vl_v (q_move rfl) rfl ?_
  refine vl_v (q_lookI0 4 U3 U71 keyInfo rfl hE rfl rfl) rfl<|vl_v (q_move rfl) rfl<|vl_v (q_ext rfl rfl) rfl<|vl_v (q_ext rfl rfl) rfl<|l_allocA zr33 rfl<|fun b5=>l_storeA 0 rfl rfl rfl sz33 (by with_reducible assumption) (by with_reducible first | exact bys_one _ | exact u32s_one _ | exact u64s_one _ | exact i64s_one _ | exact n64s_one _ | assumption) (by rfl) ?_
  simp only [List.set_cons_zero,List.set_cons_succ]
  refine vl_v (q_assign rfl) rfl<|vl_nil<|th_n<|VC_seq<|VC_seq<|VC_region<|vl_v (q_move rfl) rfl<|vl_v (q_not rfl) rfl<|vl_nil<|th_n<|VC_yes (rfl)<|VC_seq ?_
  refine VC_drawM 4 [[],[],[1],[2],[0,3],[4,0,1,2,3]] [[],[],[1],[1,2],[0,1,2,3],[0,1,2,3,4]] rfl (by kernel_rfl)<|qm_v (fun xs hx=>q_loads 4 U33 rfl rfl rfl sz33 (by with_reducible assumption))<|qm_v (fun xs hx=>q_move rfl)<|qm_v (fun xs hx=>q_conv_nw U3 U78 rfl (by omega))<|qm_a (fun xs hx=>q_callR F26 rfl rfl rfl (fun w1 H1=>hhc w1))<|qm_end<|fun xs hx=>?_
  obtain ⟨⟨A21,c21,e21,hc21,hm21⟩,_⟩:=hx
  simp only [e21]
  simp only [resT,nRow,nBlk,nRowT,tupAt_0,List.append_assoc,List.nil_append,List.append_nil,List.cons_append,List.singleton_append,e21]
  refine VL.keep (kp [0,1,2,4,5,6,17,18,21] rfl)<|vl_v (q_callV F25 rfl rfl rfl (fun w1 H1=>hdc _ _ _ w1 lhb.symm (Reads.row 0 rfl w1 H1) (by omega))) rfl<|l_storeA 1 rfl rfl rfl sz33 (by with_reducible assumption) (by with_reducible first | exact bys_one _ | exact u32s_one _ | exact u64s_one _ | exact i64s_one _ | exact n64s_one _ | assumption) (by with_reducible assumption) ?_
  simp only [List.set_cons_zero,List.set_cons_succ]
  refine vl_nil<|qn_n<|th_n<|VC_drawV 6 [[],[0],[1],[2],[],[],[3,4,5,0,1,2]] [[],[0],[0,1],[0,1,2],[],[],[0,1,2,3,4,5]] rfl (by kernel_rfl)<|qv_v (q_load 4 U28 rfl rfl rfl rfl)<|qv_v (q_nilck rfl)<|qv_v (q_fldA fo74_1 (by decide) rfl rfl)<|qv_v (q_load 3 U71 rfl rfl rfl rfl)<|qv_v (q_move rfl)<|qv_v (q_loads 1 U33 rfl rfl rfl sz33 (by with_reducible assumption))<|qv_end<|VL.keep (kp [0,1,2,4,5,6,17,26,27,28] rfl)<|l_updateI 6 U3 U71 rfl rfl rfl rfl hE (by simp) (by simp) ?_
  intro o1 hE1
  simp only [List.set_cons_zero,List.set_cons_succ]
  refine vl_nil<|qn_n<|th_n<|VC_seq<|VC_region<|vl_v (q_loads 1 U33 rfl rfl rfl sz33 (by with_reducible assumption)) rfl<|l_storeA 2 rfl rfl rfl sz33 (by with_reducible assumption) (by with_reducible first | exact bys_one _ | exact u32s_one _ | exact u64s_one _ | exact i64s_one _ | exact n64s_one _ | assumption) (by rfl) ?_
  simp only [List.set_cons_zero,List.set_cons_succ]
  refine vl_nil<|th_n<|VC_ret<|⟨_,resC1 2 rfl U33 rfl rfl rfl sz33 (by with_reducible assumption),?_⟩
  exact ⟨o1,rfl,hE1,fun w' H=>St.pickR (R:=R) 7 H (ks:=[3,4,5,6]) (by decide) (by decide) rfl rfl⟩
def relO (a v g:Value):Obj:=.map #[⟨a,v,dNat (d3 g).1⟩] (dNat (d3 g).2.1)
theorem relO_map (a v g:Value):MapOf (relO a v g) [(a,v)]:=⟨_,_,rfl,rfl⟩
theorem relO_ghost {o:Obj} {a v:Value} (h:MapOf o [(a,v)]):∃ g,relO a v g=o:=by
 obtain ⟨es,c,rfl,h⟩:=h
 obtain ⟨⟨x⟩⟩:=es
 ·simp at h
 ·rename_i e r
  cases r with
  | nil =>
   simp only [List.map_cons,List.map_nil,List.cons.injEq,Prod.mk.injEq,and_true] at h
   obtain ⟨rfl,rfl⟩:=h
   exact ⟨.tuple #[gNat e.born,gNat c,undef],by unfold relO;rw [dg3,dgNat,dgNat]⟩
  | cons y r=>simp at h
def tagB (root:List UInt8) (x:StN):List UInt8:=macB (epK root x.e) ([UInt8.ofNat x.f,UInt8.ofNat x.t]++highB x.ti 4++x.cm)
theorem tagB_length (root:List UInt8) (x:StN):(tagB root x).length=32:=macB_length ..
theorem tag_calls {S:List Nat} {w0:World} {R:List Res} (br bv bk m ticks:Nat) (o:Obj) (root:List UInt8) (x:StN) (kn:Bool) (hr:root.length=32) (he:x.e≤1000000) (hti:x.ti≤1000000) (hcm:x.cm.length=32) (htg:x.tg.length=32) (hE:MapOf o (relE x.e (epK root x.e) kn)) (w:World) (H:St S w0 (RelR br bv bk m o ticks root++R) w) :
 Calls Tryz.prog 44 #[vP br 0,.agg (stN x).toArray] w fun e w'=>∃ o':Obj,e=.returned (.agg (bys (tagB root x)).toArray)∧MapOf o' (relE x.e (epK root x.e) true)∧St S w0 (RelR br bv bk m o' ticks root++R) w':=by
 have hf:=stN_f hcm htg
 have lxl:=hf.len
 have hkc:=fun (S:List Nat) (w0:World) (R:List Res) w1 H1=>relkey_calls (S:=S) (w0:=w0) (R:=R) br bv bk m x.e ticks o root kn hr he hE w1 H1
 have lT:=tagB_length root x
 have lK:(epK root x.e).length=32:=macB_length ..
 have hT:tagB root x=macB (epK root x.e) ([UInt8.ofNat x.f,UInt8.ofNat x.t]++highB x.ti 4++x.cm):=rfl
 obtain ⟨k,hk⟩:∃ k,epK root x.e=k:=⟨_,rfl⟩
 have lhb:=highB_length x.ti 4
 obtain ⟨hb,hhb⟩:∃ k,highB x.ti 4=k:=⟨_,rfl⟩
 obtain ⟨T,hT0⟩:∃ T,tagB root x=T:=⟨_,rfl⟩
 rw [hk] at hkc lK ⊢
 rw [hhb] at lhb
 rw [hT0,hk,hhb] at hT
 rw [hT0] at lT ⊢
 have hhc:∀ w,Calls Tryz.prog 26 #[.int .u64 x.ti,.int .i64 4] w fun e w'=>∃ v,e=.returned v∧St [] w [.row 5 1 v 4 (bys hb)] w':=fun w=>hhb ▸ high_calls x.ti 4 4 rfl (by omega) w
 have hmc:=fun A B ca cb w1 h1 h2 h3 h4=>mac_calls k ([UInt8.ofNat x.f,UInt8.ofNat x.t]++hb++x.cm) A B ca cb 32 lK.symm (by omega) (by omega) (by simp only [List.length_append,List.length_cons,List.length_nil];omega) w1 h1 h2 h3 h4
 rw [← hT] at hmc
 have ll:([UInt8.ofNat x.f,UInt8.ofNat x.t]++hb++x.cm).length=38:=by simp only [List.length_append,List.length_cons,List.length_nil];omega
 rw [ll] at hmc
 have lbk:(bys k).length=32:=by rw [bys_length];exact lK
 have lbT:(bys T).length=32:=by rw [bys_length];exact lT
 have lbh:(bys hb).length=4*1:=by rw [bys_length];exact lhb
 have eT:bys (UInt8.ofNat x.f::UInt8.ofNat x.t::hb)++bys x.cm=bys ([UInt8.ofNat x.f,UInt8.ofNat x.t]++hb++x.cm):=by rw [← bys_append];rfl
 have lbc:(bys x.cm).length=32*1:=by rw [bys_length];exact hcm
 refine enter (n:=38) (R:=fun e L=>∃ o':Obj,e=.returned (.agg (bys T).toArray)∧MapOf o' (relE x.e k true)∧∀ w',St S w0 L w'→St S w0 (RelR br bv bk m o' ticks root++R) w') [vP br 0,.agg (stN x).toArray] F44 rfl rfl rfl H ?_ (fun e w' L' h H=>by obtain ⟨o',h1,h2,h3⟩:=h;exact ⟨o',h1,h2,h3 w' H⟩)
 refine VC_seq<|VC_region<|l_boxA rfl rfl<|fun b3=>l_allocA zr33 rfl<|fun b4=>vl_nil<|th_n<|VC_seq<|VC_drawM 11 [[],[0],[1],[],[3],[4],[2,5],[],[7],[8],[9],[6,10],[11,0,1,2,3,4,5,6,7,8,9,10]] [[],[0],[0,1],[],[3],[3,4],[0,1,2,3,4,5],[],[7],[7,8],[7,8,9],[0,1,2,3,4,5,6,7,8,9,10],[0,1,2,3,4,5,6,7,8,9,10,11]] rfl (by kernel_rfl)<|qm_v (fun xs hx=>q_fldA fo46_1 (by decide) rfl rfl)<|qm_v (fun xs hx=>q_load 1 U3 rfl rfl rfl hf.g1)<|qm_v (fun xs hx=>q_conv_nu8 U3 U5 rfl)<|qm_v (fun xs hx=>q_fldA fo46_2 (by decide) rfl rfl) ?_
 refine qm_v (fun xs hx=>q_load 1 U3 rfl rfl rfl hf.g2)<|qm_v (fun xs hx=>q_conv_nu8 U3 U5 rfl)<|qm_a (fun xs hx=>q_litA (cs:=bys [_,_]) U22 in5 (by decide) rfl rfl rfl rfl (by exact one_all rfl) rfl)<|qm_v (fun xs hx=>q_fldA fo46_3 (by decide) rfl rfl)<|qm_v (fun xs hx=>q_load 1 U3 rfl rfl rfl hf.g3)<|qm_v (fun xs hx=>q_conv_nw U3 U78 rfl (by omega))<|qm_a (fun xs hx=>q_callR F26 rfl rfl rfl (fun w1 H1=>hhc w1))<|qm_end<|fun xs hx=>?_
 obtain ⟨⟨b15,e15⟩,⟨A19,c19,e19,hc19,hm19⟩,_⟩:=hx
 simp only [e15]
 simp only [e19]
 simp only [resT,nRow,nBlk,nRowT,tupAt_0,List.append_assoc,List.nil_append,List.append_nil,List.cons_append,List.singleton_append,e15,e19]
 refine VL.keep (kp [0,1,3,4,15,19] rfl)<|l_append 0 rfl rfl rfl U22 U22 in5 rfl (by decide) (Reads.row 1 rfl) (by with_reducible assumption) (by with_reducible first | exact bys_one _ | exact u32s_one _ | exact u64s_one _ | exact i64s_one _ | exact n64s_one _ | assumption) (by omega) (by omega) rfl<|fun A20 c20 hc20=>?_
 simp only [List.set_cons_zero,List.set_cons_succ,← bys_append,← u32s_append,← u64s_append,← i64s_append,List.nil_append,Nat.zero_add]
 refine vl_v (q_assign rfl) rfl<|vl_nil<|qn_n<|th_n<|VC_seq<|VC_frame (X:=[_,_,_,_,_,_,_,_]) (fun w9 H9=>?_)
 refine VC_drawQ 8 8 [[],[0],[1],[2],[],[4],[3,5],[],[7,6,0,1,2,3,4,5]] [[],[0],[0,1],[0,1,2],[],[4],[0,1,2,3,4,5],[],[0,1,2,3,4,5,6,7]] [([],[],[],[0,1,2,3,4,5,6,7],[]),([0],[],[],[0,1,2,3,4,5,6,7],[0]),([0,1],[],[],[0,1,2,3,4,5,6,7],[0,1]),([0,1,2],[],[],[0,1,2,3,4,5,6,7],[0,1,2]),([],[],[],[0,1,2,3,4,5,6,7],[]),([4],[],[],[0,1,2,3,4,5,6,7],[4]),([0,1,2,3,4,5],[4,5,6,7],[],[0,1,2,3],[0,1,2,3,4,5]),([],[],[],[0,1,2,3],[])] [0,1,2,3] [0,1,2,3,4,5,6,7] rfl rfl (by kernel_rfl)<|qp_v (fun xs gs hx=>q_move rfl)<|qp_v (fun xs gs hx=>q_nilck rfl)<|qp_v (fun xs gs hx=>q_fldA fo74_2 (by decide) rfl rfl)<|qp_v (fun xs gs hx=>q_load 4 U72 rfl rfl rfl rfl)<|qp_v (fun xs gs hx=>q_fldA fo46_0 (by decide) rfl rfl)<|qp_v (fun xs gs hx=>q_load 3 U3 rfl rfl rfl hf.g0)<|qp_cloE (caps:=[vP bv 0,vP bk 0]) (fun xs gs v g=>v=.agg (bys k).toArray) (fun xs gs v g=>RelR br bv bk m (relO (vN x.e) (.agg (bys k).toArray) g) ticks root) (fun xs gs hx=>rfl) F24 rfl rfl (args:=fun xs gs=>[vN x.e]) (fun xs gs hx=>rfl) (fun xs gs hx R1 w1 H1=>(hkc _ _ _ w1 H1).mono fun e w' h=>(by obtain ⟨o',h1,h2,h3⟩:=h;obtain ⟨g,rfl⟩:=relO_ghost h2;exact ⟨_,g,h1,(by intro h;cases h),rfl,h3⟩))<|qp_a (fun xs gs hx=>q_alloc zr33 rfl)<|qp_end<|fun xs gs hx=>?_
 obtain ⟨f27,⟨b6,e6⟩,_⟩:=hx
 simp only [selI,ownsA,List.contains_cons,List.contains_nil,Nat.reduceBEq,Nat.reduceAdd,Bool.or_false,Bool.or_true,Bool.false_or,Bool.true_or,mask,nRow,nBlk,nRowT,tupAt_0,tupAt_1,List.append_assoc,List.nil_append,List.append_nil,List.cons_append,List.singleton_append,e6]
 simp only [f27]
 obtain ⟨o1,ho1⟩:∃ o1,relO (vN x.e) (.agg (bys k).toArray) (gs 6)=o1:=⟨_,rfl⟩
 have hE1:MapOf o1 (relE x.e k true):=by rw [← ho1];exact relO_map ..
 rw [ho1]
 simp only [RelR,List.cons_append,List.nil_append]
 refine VL.keep (kp [0,1,3,4,5,27,6] rfl)<|l_storeA 8 rfl rfl rfl sz33 (by with_reducible assumption) (by with_reducible first | exact bys_one _ | exact u32s_one _ | exact u64s_one _ | exact i64s_one _ | exact n64s_one _ | assumption) (by rfl) ?_
 simp only [List.set_cons_zero,List.set_cons_succ]
 refine vl_nil<|qn_n<|th_n<|VC_seq<|VC_frame (X:=[_,_,_,_,_,_,_,_,_]) (fun w9 H9=>?_)
 refine VC_drawQ 11 9 [[],[],[],[2],[1,3],[0,4],[5],[6],[6],[],[9,7,5,0,1,2,3,4,6],[8,10,0,1,2,3,4,5,6,7,9]] [[],[],[],[2],[1,2,3],[0,1,2,3,4],[0,1,2,3,4,5],[0,1,2,3,4,5,6],[0,1,2,3,4,5,6],[],[0,1,2,3,4,5,6,7,9],[0,1,2,3,4,5,6,7,8,9,10]] [([],[],[],[1,2,3,4,5,6,7,8],[]),([],[],[],[0,1,2,3,4,5,6,7,8],[]),([],[],[],[0,1,2,3,4,5,6,7,8],[]),([2],[],[],[0,1,2,3,4,5,6,7,8],[2]),([1,2,3],[0],[],[1,2,3,4,5,6,7,8],[1,2,3]),([0,1,2,3,4],[],[],[1,2,3,4,5,6,7,8],[0,1,2,3,4]),([0,1,2,3,4,5],[],[],[1,2,3,4,5,6,7,8],[0,1,2,3,4,5]),([0,1,2,3,4,5,6],[],[],[1,2,3,4,5,6,7,8],[0,1,2,3,4,5,6]),([0,1,2,3,4,5,6],[],[],[1,2,3,4,5,6,7,8],[0,1,2,3,4,5,6]),([],[],[],[1,2,3,4,5,6,7,8],[]),([0,1,2,3,4,5,6,7,9],[],[9],[1,2,3,4,5,6,7,8],[0,1,2,3,4,5,6,7])] [1,2,3,4,5,6,7,8] [0,1,2,3,4,5,6,7,8,10] rfl rfl (by kernel_rfl) ?_
 refine qp_v (fun xs gs hx=>q_slcA U33 sz5 rfl rfl rfl rfl (.inl rfl) (by omega) (by omega) (by omega) (by omega) (by (try simp only [Nat.mul_one,Nat.zero_add,Nat.zero_mul,Nat.mul_zero,Nat.add_zero])<;>rfl)) ?_
 refine qp_v (fun xs gs hx=>q_move rfl)<|qp_v (fun xs gs hx=>q_fldA fo46_4 (by decide) rfl rfl) ?_
 refine qp_v (fun xs gs hx=>q_slcA U33 sz5 rfl rfl rfl rfl (.inl rfl) (by omega) (by omega) (by omega) (by omega) (by (try simp only [Nat.mul_one,Nat.zero_add,Nat.zero_mul,Nat.mul_zero,Nat.add_zero])<;>rfl)) ?_
 refine qp_append U22 U22 in5 rfl (by decide) (fun xs gs hx=>rfl) (fun xs gs hx=>rfl) (fun xs gs hx=>⟨_,_,rfl,Reads.blkTake 2 4 32 rfl hf.g4⟩) (fun xs gs hx=>by first | with_reducible assumption | omega | rfl) (fun xs gs hx=>by first | (with_reducible first | exact bys_one _ | exact u32s_one _ | exact u64s_one _ | exact i64s_one _ | exact n64s_one _ | assumption) | exact bys_one _ | exact u32s_one _ | exact u64s_one _ | exact i64s_one _ | exact one_all rfl | (refine app_one ?_ ?_<;>first | exact bys_one _ | exact one_all rfl | (simp;done))) (by omega) (by omega) ?_
 refine qp_v (f:=fun _ _=>.tuple #[.agg (bys T).toArray,.int .i64 0]) (fun xs gs hx=>?_) ?_
 ·obtain ⟨A33,c33,e33,h33,_⟩:=hx.1 rfl
  simp only [e33]
  exact q_callV F67 rfl rfl rfl (fun w1 H1=>hmc _ _ 32 c33 w1 (Reads.blk 7 rfl w1 H1) (eT ▸ Reads.rowV 8 e33 rfl w1 H1) (by omega) (by omega))
 refine qp_v (fun xs gs hx=>q_move rfl)<|qp_v (fun xs gs hx=>q_ext rfl rfl)<|qp_v (fun xs gs hx=>q_ext rfl rfl)<|qp_a (fun xs gs hx=>q_alloc zr33 rfl) ?_
 refine qp_storeN (fun xs gs hx=>rfl) (fun xs gs hx=>hx.2.1 rfl) (fun xs gs hx=>rfl) (fun xs gs hx=>List.append_nil _) sz33 (fun xs gs hx=>by first | with_reducible assumption | omega | rfl) (fun xs gs hx=>by first | (with_reducible first | exact bys_one _ | exact u32s_one _ | exact u64s_one _ | exact i64s_one _ | exact n64s_one _ | assumption) | exact bys_one _ | exact u32s_one _ | exact u64s_one _ | exact i64s_one _ | exact one_all rfl | (refine app_one ?_ ?_<;>first | exact bys_one _ | exact one_all rfl | (simp;done))) (fun xs gs hx=>by first | with_reducible assumption | omega | rfl) ?_
 refine qp_end<|fun xs gs hx=>?_
 obtain ⟨⟨A33,c33,e33,hc33,hm33⟩,⟨b7,e7⟩,_,_⟩:=hx
 simp only [selI,ownsA,List.contains_cons,List.contains_nil,Nat.reduceBEq,Nat.reduceAdd,Bool.or_false,Bool.or_true,Bool.false_or,Bool.true_or,mask,nRow,nBlk,nRowT,tupAt_0,tupAt_1,List.append_assoc,List.nil_append,List.append_nil,List.cons_append,List.singleton_append,e33,e7]
 refine VL.keep (kp [0,1,3,4,5,6,36,7] rfl)<|vl_v (q_assign rfl) rfl<|vl_nil<|qn_n<|th_n<|VC_seq<|VC_region ?_
 simp only [List.cons_append,List.nil_append]
 refine vl_v (q_loads 9 U33 rfl rfl rfl sz33 (by with_reducible assumption)) rfl<|l_storeA 1 rfl rfl rfl sz33 (by with_reducible assumption) (by with_reducible first | exact bys_one _ | exact u32s_one _ | exact u64s_one _ | exact i64s_one _ | exact n64s_one _ | assumption) (by rfl) ?_
 simp only [List.set_cons_zero,List.set_cons_succ]
 refine vl_nil<|th_n<|VC_ret<|⟨_,resC1 1 rfl U33 rfl rfl rfl sz33 (by with_reducible assumption),?_⟩
 exact ⟨o1,rfl,hE1,fun w' H=>St.pickR (R:=R) 10 H (ks:=[3,4,5,6]) (by decide) (by decide) rfl rfl⟩
theorem built_stamp {e f t ti:Nat} {c:List UInt8} (h:c.length=32):Tryz.prog.built 46 [(0,vN e),(1,vN f),(2,vN t),(3,vN ti),(4,.agg (bys c).toArray)]=some (stN ⟨e,f,t,ti,c,z32b⟩).toArray:=by
 obtain ⟨g,rfl⟩:=ofFn_of h
 kernel_rfl
def stampN (root:List UInt8) (ticks f t now:Nat) (cm:List UInt8):StN:=⟨now / ticks,f,t,now,cm,tagB root ⟨now / ticks,f,t,now,cm,z32b⟩⟩
theorem stamp_calls {w0:World} {R:List Res} (br bv bk m ticks f t now:Nat) (o:Obj) (root cm pub:List UInt8) (p q:Int) (sl:Value) (kn:Bool) (hr:root.length=32) (hcm:cm.length=32) (hpub:pub.length=32) (hf:f<8) (ht:t<8) (hn:now≤1000000) (htk:1≤ticks) (hsl:sl.oneCell'=true) (hE:MapOf o (relE (now / ticks) (epK root (now / ticks)) kn)) (w:World) (H:St [] w0 (RelR br bv bk m o ticks root++R) w) :
 Calls Tryz.prog 11 #[vP br 0,.agg (envC f t cm pub p q sl).toArray,vN now] w fun e w'=>∃ o':Obj,e=.returned (.tuple #[.agg (stN (stampN root ticks f t now cm)).toArray,vN 0])∧MapOf o' (relE (now / ticks) (epK root (now / ticks)) true)∧St [] w0 (RelR br bv bk m o' ticks root++R) w':=by
 have hv:=envC_f (f:=(f:Int)) (t:=(t:Int)) (p:=p) (q:=q) (sl:=sl) hcm hpub
 have hev:=hv.len
 have oev:∀ u∈envC (f:Int) (t:Int) cm pub p q sl,u.oneCell'=true:=envC_one hsl
 have hle:now / ticks≤1000000:=Nat.le_trans (Nat.div_le_self _ _) hn
 unfold stampN
 obtain ⟨ep,hep⟩:∃ ep,now / ticks=ep:=⟨_,rfl⟩
 rw [hep] at hE hle ⊢
 have hx0:=stN_f (x:=⟨ep,f,t,now,cm,z32b⟩) hcm z32b_length
 have lx0:=hx0.len
 have ox0:=hx0.one
 have htg:=fun (R:List Res) w1 H1=>tag_calls (S:=[]) (w0:=w0) (R:=R) br bv bk m ticks o root ⟨ep,f,t,now,cm,z32b⟩ kn hr hle hn hcm z32b_length hE w1 H1
 have lT:=tagB_length root ⟨ep,f,t,now,cm,z32b⟩
 obtain ⟨T,hT⟩:∃ T,tagB root ⟨ep,f,t,now,cm,z32b⟩=T:=⟨_,rfl⟩
 rw [hT] at htg lT ⊢
 have hx1:=stN_f (x:=⟨ep,f,t,now,cm,T⟩) hcm lT
 have lx1:=hx1.len
 have ox1:=hx1.one
 have lbT:(bys T).length=32:=by rw [bys_length];exact lT
 have lbc:(bys cm).length=32:=by rw [bys_length];exact hcm
 have hbs:=built_stamp (e:=ep) (f:=f) (t:=t) (ti:=now) hcm
 refine enter (n:=44) (R:=fun e L=>∃ o':Obj,e=.returned (.tuple #[.agg (stN ⟨ep,f,t,now,cm,T⟩).toArray,vN 0])∧MapOf o' (relE ep (epK root ep) true)∧∀ w',St [] w0 L w'→St [] w0 (RelR br bv bk m o' ticks root++R) w') [vP br 0,.agg (envC f t cm pub p q sl).toArray,vN now] F11 rfl rfl rfl H ?_ (fun e w' L' h H=>by obtain ⟨o',h1,h2,h3⟩:=h;exact ⟨o',h1,h2,h3 w' H⟩)
 refine VC_seq<|VC_region<|l_boxA rfl rfl<|fun b4=>l_allocA zr46 rfl<|fun b6=>vl_v (q_assign rfl) rfl<|vl_nil<|th_n<|VC_seq<|VC_seq<|VC_region<|vl_v (q_move rfl) rfl<|vl_v (q_callV F42 rfl rfl rfl (fun w1 H1=>time_calls now hn w1)) rfl ?_
 refine vl_v (q_not rfl) rfl<|vl_v (q_move rfl) rfl<|vl_vg rfl (q_fldA fo37_0 (by decide) rfl rfl) rfl<|vl_vg rfl (q_load 1 U3 rfl rfl rfl hv.g0) rfl<|vl_vg rfl (q_callV F43 rfl rfl rfl (fun w1 H1=>account_calls f hf w1)) rfl<|vl_vg rfl (q_not rfl) rfl<|vl_v (q_pickF rfl rfl) rfl<|vl_v (q_move rfl) rfl<|vl_vg rfl (q_fldA fo37_1 (by decide) rfl rfl) rfl<|vl_vg rfl (q_load 1 U3 rfl rfl rfl hv.g1) rfl<|vl_vg rfl (q_callV F43 rfl rfl rfl (fun w1 H1=>account_calls t ht w1)) rfl<|vl_vg rfl (q_not rfl) rfl ?_
 refine vl_v (q_pickF rfl rfl) rfl<|vl_nil<|th_n<|VC_no (rfl)<|VC_skip<|th_n<|VC_seq<|VC_drawM 15 [[],[],[1],[2],[3],[0,4],[],[6],[],[8],[],[],[11],[5,7,9,10,12],[],[14,13,0,1,2,3,4,5,6,7,8,9,10,11,12]] [[],[],[1],[1,2],[1,2,3],[0,1,2,3,4],[],[6],[],[8],[],[],[11],[0,1,2,3,4,5,6,7,8,9,10,11,12],[],[0,1,2,3,4,5,6,7,8,9,10,11,12,13,14]] rfl (by kernel_rfl)<|qm_v (fun xs hx=>q_move rfl)<|qm_v (fun xs hx=>q_move rfl)<|qm_v (fun xs hx=>q_nilck rfl)<|qm_v (fun xs hx=>q_fldA fo74_0 (by decide) rfl rfl) ?_
 refine qm_v (fun xs hx=>q_load 2 U3 rfl rfl rfl rfl)<|qm_v (fun xs hx=>q_as (v:=vN ep) (q_quo_n rfl rfl (by omega) (by omega)) (by rw [hep]))<|qm_v (fun xs hx=>q_fldA fo37_0 (by decide) rfl rfl)<|qm_v (fun xs hx=>q_load 1 U3 rfl rfl rfl hv.g0)<|qm_v (fun xs hx=>q_fldA fo37_1 (by decide) rfl rfl)<|qm_v (fun xs hx=>q_load 1 U3 rfl rfl rfl hv.g1)<|qm_v (fun xs hx=>q_move rfl)<|qm_v (fun xs hx=>q_fldA fo37_2 (by decide) rfl rfl)<|qm_v (fun xs hx=>q_loadsAt 1 U33 rfl rfl rfl sz33 hv.g2 lbc)<|qm_v (fun xs hx=>q_build (c':=stN ⟨ep,f,t,now,cm,z32b⟩) rfl hbs)<|qm_a (fun xs hx=>q_alloc zr46 rfl)<|qm_end ?_
 intro xs hx
 obtain ⟨⟨b8,e8⟩,_⟩:=hx
 simp only [e8]
 simp only [resT,nRow,nBlk,nRowT,tupAt_0,List.append_assoc,List.nil_append,List.append_nil,List.cons_append,List.singleton_append,e8]
 refine VL.keep (kp [0,1,2,4,6,7,23,38,8] rfl)<|l_storeA 0 rfl rfl rfl sz46 (by with_reducible assumption) (by with_reducible first | exact bys_one _ | exact u32s_one _ | exact u64s_one _ | exact i64s_one _ | exact n64s_one _ | assumption) (by rfl) ?_
 simp only [List.set_cons_zero,List.set_cons_succ]
 refine vl_nil<|qn_n<|th_n<|VC_seq<|VC_region<|vl_v (q_move rfl) rfl<|vl_v (q_loads 0 U46 rfl rfl rfl sz46 (by with_reducible assumption)) rfl<|l_call (F:=fun v L'=>∃ o':Obj,v=.agg (bys T).toArray∧MapOf o' (relE ep (epK root ep) true)∧L'=RelR br bv bk m o' ticks root++([.blk b8 46 (stN ⟨ep,f,t,now,cm,z32b⟩),.blk b6 46 (stN ⟨0,0,0,0,z32b,z32b⟩),.blk b4 37 (envC f t cm pub p q sl)]++R)) F44 rfl rfl rfl (fun w1 H1=>(htg ([Res.blk b8 46 (stN ⟨ep,f,t,now,cm,z32b⟩),Res.blk b6 46 (stN ⟨0,0,0,0,z32b,z32b⟩),Res.blk b4 37 (envC f t cm pub p q sl)]++R) w1 (St.pickR (M:=RelR br bv bk m o ticks root++[Res.blk b8 46 (stN ⟨ep,f,t,now,cm,z32b⟩),Res.blk b6 46 (stN ⟨0,0,0,0,z32b,z32b⟩),Res.blk b4 37 (envC f t cm pub p q sl)]) (R:=R) 7 H1 (ks:=[3,4,5,6,0,1,2]) (by decide) (by decide) rfl rfl)).mono fun e w' h=>?_) rfl ?_
 ·obtain ⟨o',h1,h2,h3⟩:=h
  exact ⟨_,_,h1,⟨o',rfl,h2,rfl⟩,h3⟩
 rintro v L' ⟨o1,rfl,hE1,rfl⟩
 simp only [RelR,List.cons_append,List.nil_append]
 refine vl_v (q_fldA fo46_5 (by decide) rfl rfl) rfl<|l_storeG 4 rfl rfl rfl sz33 lbT (bys_one _) (by rw [lx0];omega) ?_
 simp only [List.set_cons_zero,List.set_cons_succ]
 rw [hx0.w5 T lT]
 refine vl_nil<|th_n<|VC_seq<|VC_region<|vl_v (q_loads 4 U46 rfl rfl rfl sz46 (by with_reducible assumption)) rfl<|l_storeA 5 rfl rfl rfl sz46 (by with_reducible assumption) (by with_reducible first | exact bys_one _ | exact u32s_one _ | exact u64s_one _ | exact i64s_one _ | exact n64s_one _ | assumption) (by rfl) ?_
 simp only [List.set_cons_zero,List.set_cons_succ]
 refine vl_v (q_assign rfl) rfl<|vl_nil<|th_n<|VC_ret<|⟨_,resC2 5 rfl U46 rfl rfl rfl sz46 (by with_reducible assumption) rfl,?_⟩
 exact ⟨o1,rfl,hE1,fun w' H=>St.pickR (R:=R) 7 H (ks:=[0,1,2,3]) (by decide) (by decide) rfl rfl⟩
theorem scheck_calls {w0:World} {R:List Res} (br bv bk m ticks now:Nat) (o:Obj) (root:List UInt8) (x:StN) (kn:Bool) (hr:root.length=32) (hx:x.ok) (hep:x.ti / ticks=x.e) (htg:x.tg=tagB root x) (hn:now≤1000000) (h1:x.ti≤now) (h2:now≤x.ti+50) (htk:1≤ticks) (hE:MapOf o (relE x.e (epK root x.e) kn)) (w:World) (H:St [] w0 (RelR br bv bk m o ticks root++R) w) :
 Calls Tryz.prog 51 #[vP br 0,.agg (stN x).toArray,vN now] w fun e w'=>∃ o':Obj,e=.returned (vN 0)∧MapOf o' (relE x.e (epK root x.e) true)∧St [] w0 (RelR br bv bk m o' ticks root++R) w':=by
 have hf:=stN_f hx.cm hx.tg
 have lx0:=hf.len
 have ox0:=hf.one
 have hrc:=fun w=>sright_calls x hx w
 have htc:=fun (R:List Res) w1 H1=>tag_calls (S:=[]) (w0:=w0) (R:=R) br bv bk m ticks o root x kn hr hx.e hx.ti hx.cm hx.tg hE w1 H1
 rw [← htg] at htc
 have lbT:(bys x.tg).length=32:=by rw [bys_length];exact hx.tg
 have hti:=hx.ti
 have hltg:=hx.tg
 refine enter (n:=49) (R:=fun e L=>∃ o':Obj,e=.returned (vN 0)∧MapOf o' (relE x.e (epK root x.e) true)∧∀ w',St [] w0 L w'→St [] w0 (RelR br bv bk m o' ticks root++R) w') [vP br 0,.agg (stN x).toArray,vN now] F51 rfl rfl rfl H ?_ (fun e w' L' h H=>by obtain ⟨o',h1,h2,h3⟩:=h;exact ⟨o',h1,h2,h3 w' H⟩)
 refine VC_seq<|VC_region<|l_boxA rfl rfl<|fun b4=>vl_v (q_assign rfl) rfl<|vl_nil<|th_n<|VC_seq<|VC_seq<|VC_region<|vl_v (q_loads 0 U46 rfl rfl rfl sz46 (by with_reducible assumption)) rfl<|vl_v (q_callV F80 rfl rfl rfl (fun w1 H1=>hrc w1)) rfl<|vl_v (q_not rfl) rfl ?_
 refine vl_v (q_move rfl) rfl<|vl_vg rfl (q_move rfl) rfl<|vl_vg rfl (q_callV F42 rfl rfl rfl (fun w1 H1=>time_calls now hn w1)) rfl<|vl_vg rfl (q_not rfl) rfl<|vl_v (q_pickF rfl rfl) rfl<|vl_nil<|th_n<|VC_no (rfl)<|VC_skip<|th_n<|VC_seq<|VC_region ?_
 refine vl_v (q_move rfl) rfl<|vl_v (q_loads 0 U46 rfl rfl rfl sz46 (by with_reducible assumption)) rfl<|l_call (F:=fun v L'=>∃ o':Obj,v=.agg (bys x.tg).toArray∧MapOf o' (relE x.e (epK root x.e) true)∧L'=RelR br bv bk m o' ticks root++([.blk b4 46 (stN x)]++R)) F44 rfl rfl rfl (fun w1 H1=>(htc ([Res.blk b4 46 (stN x)]++R) w1 (St.pickR (M:=RelR br bv bk m o ticks root++[Res.blk b4 46 (stN x)]) (R:=R) 5 H1 (ks:=[1,2,3,4,0]) (by decide) (by decide) rfl rfl)).mono fun e w' h=>?_) rfl ?_
 ·obtain ⟨o',h1,h2,h3⟩:=h
  exact ⟨_,_,h1,⟨o',rfl,h2,rfl⟩,h3⟩
 rintro v L' ⟨o1,rfl,hE1,rfl⟩
 simp only [RelR,List.cons_append,List.nil_append]
 refine l_allocA zr33 rfl<|fun b7=>l_storeA 0 rfl rfl rfl sz33 (by with_reducible assumption) (by with_reducible first | exact bys_one _ | exact u32s_one _ | exact u64s_one _ | exact i64s_one _ | exact n64s_one _ | assumption) (by rfl) ?_
 simp only [List.set_cons_zero,List.set_cons_succ]
 refine vl_nil<|th_n<|VC_seq<|VC_block<|VC_seq<|VC_drawV 14 [[],[0],[],[2],[],[4],[5],[6],[3,7],[1,8],[9],[10],[10],[12,10],[11,13,10],[14,10],[10,15],[16,14]] [[],[0],[],[2],[],[4],[4,5],[4,5,6],[2,3,4,5,6,7],[0,1,2,3,4,5,6,7,8],[0,1,2,3,4,5,6,7,8,9],[0,1,2,3,4,5,6,7,8,9,10],[0,1,2,3,4,5,6,7,8,9,10],[0,1,2,3,4,5,6,7,8,9,10,12],[0,1,2,3,4,5,6,7,8,9,10,11,12,13],[0,1,2,3,4,5,6,7,8,9,10,11,12,13,14],[0,1,2,3,4,5,6,7,8,9,10,11,12,13,14,15],[0,1,2,3,4,5,6,7,8,9,10,11,12,13,14,15,16]] rfl (by kernel_rfl)<|qv_v (q_fldA fo46_0 (by decide) rfl rfl)<|qv_v (q_load 5 U3 rfl rfl rfl hf.g0)<|qv_v (q_fldA fo46_3 (by decide) rfl rfl)<|qv_v (q_load 5 U3 rfl rfl rfl hf.g3)<|qv_v (q_move rfl)<|qv_v (q_nilck rfl) ?_
 refine qv_v (q_fldA fo74_0 (by decide) rfl rfl)<|qv_v (q_load 1 U3 rfl rfl rfl rfl)<|qv_v (q_as (v:=vN x.e) (q_quo_n rfl rfl (by omega) (by omega)) (by rw [hep]))<|qv_v (q_as (v:=.bool false) (q_neq_n U3 rfl rfl) (by rw [decide_eq_true rfl];rfl))<|qv_v (q_move rfl) ?_
 refine qv_vg (rfl) (q_slcA U33 sz5 rfl rfl rfl rfl (.inl rfl) (by omega) (by omega) (by omega) (by omega) (by (try simp only [Nat.mul_one,Nat.zero_add,Nat.zero_mul,Nat.mul_zero,Nat.add_zero])<;>rfl)) ?_
 refine qv_vg (rfl) (q_fldA fo46_5 (by decide) rfl rfl) ?_
 refine qv_vg (rfl) (q_slcA U33 sz5 rfl rfl rfl rfl (.inl rfl) (by omega) (by omega) (by omega) (by omega) (by (try simp only [Nat.mul_one,Nat.zero_add,Nat.zero_mul,Nat.mul_zero,Nat.add_zero])<;>rfl)) ?_
 refine qv_end<|VL.keep (kp [0,1,2,4,6,15,7,30,31,33] rfl)<|vl_vg rfl (q_as (v:=.bool true) (q_callV F83 rfl rfl rfl (fun w1 H1=>same5_calls x.tg x.tg _ _ 32 32 32 32 hltg.symm hltg.symm w1 (Reads.blk 0 rfl w1 H1) (Reads.blkTake 5 36 32 rfl hf.g5 w1 H1) (by omega) (by omega))) (by rw [decide_eq_true rfl])) rfl<|vl_vg rfl (q_not rfl) rfl<|vl_v (q_pickF rfl rfl) rfl<|vl_v (q_assign rfl) rfl<|vl_nil<|qn_n<|th_n<|VC_no (rfl)<|VC_seq<|VC_region<|vl_v (q_move rfl) rfl ?_
 refine vl_v (q_fldA fo46_3 (by decide) rfl rfl) rfl<|vl_v (q_load 5 U3 rfl rfl rfl hf.g3) rfl<|vl_v (q_as (v:=.bool false) (q_lss_n U3 rfl rfl) (by simp;omega)) rfl<|vl_v (q_move rfl) rfl<|vl_vg rfl (q_move rfl) rfl<|vl_vg rfl (q_fldA fo46_3 (by decide) rfl rfl) rfl<|vl_vg rfl (q_load 5 U3 rfl rfl rfl hf.g3) rfl<|vl_vg rfl (q_sub_n rfl rfl (by omega) (by omega)) rfl<|vl_vg rfl (q_as (v:=.bool false) (q_gtr_n (q:=50) U3 rfl rfl) (by simp;omega)) rfl<|vl_v (q_pickF rfl rfl) rfl<|vl_v (q_assign rfl) rfl<|vl_nil ?_
 refine th_n<|VC_no (rfl)<|VC_skip<|bl_n<|th_n<|VC_seq<|VC_region<|vl_v (q_assign rfl) rfl<|vl_nil<|th_n<|VC_ret<|⟨_,res1 rfl rfl,?_⟩
 exact ⟨o1,rfl,hE1,fun w' H=>St.pickR (R:=R) 6 H (ks:=[1,2,3,4]) (by decide) (by decide) rfl rfl⟩
end Go.Proofs.YtfpdnpppcoomnaaGreat
namespace Go.PBYtfpdnpppcoomnaaGreat
open Go Go.RowKit
def repC (id b:Nat) (sl:Value) (op:List UInt8) (x:StN):List Value:=[vN id,vN b,sl]++(bys op++stN x)
structure RepF (c:List Value) (id b:Nat) (sl:Value) (op:List UInt8) (x:StN):Prop where
 len:c.length=103
 g0:c[0]?=some (vN id)
 g1:c[1]?=some (vN b)
 g2:c[2]?=some sl
 g3:(c.drop 3).take 32=bys op
 g4:(c.drop 35).take 68=stN x
 one:sl.oneCell'=true→∀ u∈c,u.oneCell'=true
theorem repC_f {id b:Nat} {sl:Value} {op:List UInt8} {x:StN} (h0:op.length=32) (h1:x.cm.length=32) (h2:x.tg.length=32):RepF (repC id b sl op x) id b sl op x:=by
 have h3:=(stN_f h1 h2).len
 have h4:=(stN_f h1 h2).one
 obtain ⟨s,hs⟩:∃ s,stN x=s:=⟨_,rfl⟩
 unfold repC
 rw [hs] at h3 h4 ⊢
 obtain ⟨f,rfl⟩:=ofFn_of h0
 obtain ⟨g,rfl⟩:=ofFn_of h3
 refine ⟨rfl,rfl,rfl,rfl,rfl,?_,?_⟩
 ·rw [hs];rfl
 ·intro hsl w hw
  rcases List.mem_append.1 hw with hw | hw
  ·simp only [List.mem_cons,List.not_mem_nil,or_false] at hw
   rcases hw with rfl | rfl | rfl
   ·rfl
   ·rfl
   ·exact hsl
  ·rcases List.mem_append.1 hw with hw | hw
   ·exact bys_one _ w hw
   ·exact h4 w hw
def reptB (id b:Nat) (l op:List UInt8) (x:StN):List UInt8:=joinB [highB id 4,[UInt8.ofNat b],l,op,stB x]
end Go.PBYtfpdnpppcoomnaaGreat
namespace Go.Proofs.YtfpdnpppcoomnaaGreat
open Go Go.RowKit Go.PBYtfpdnpppcoomnaaGreat
theorem must_calls (w:World):Calls Tryz.prog 81 #[.bool true] w fun e w'=>e=.returned (.tuple #[])∧Kept [] w w':=by
 refine enter (n:=5) (R:=fun e L=>e=.returned (.tuple #[])) [.bool true] F81 rfl rfl rfl (St.refl w) ?_ (fun e w' L' h H=>⟨h,H.kept⟩)
 refine VC_seq<|VC_region<|vl_v (q_move rfl) rfl<|vl_v (q_not rfl) rfl<|vl_nil<|th_n<|VC_no (rfl)<|VC_skip<|⟨_,res0 rfl,?_⟩
 exact rfl
theorem repRight_calls (id b:Nat) (A:Option Addr) (n c:Nat) (op:List UInt8) (x:StN) (hid:id≤1000000) (hb:b<8) (hn:n≤250) (hop:op.length=32) (hx:x.ok) (w:World) :
 Calls Tryz.prog 45 #[.agg (repC id b (.slice A n c) op x).toArray] w fun e w'=>e=.returned (.bool true)∧Kept [] w w':=by
 have hf:=repC_f (id:=id) (b:=b) (sl:=.slice A n c) hop hx.cm hx.tg
 have hsb:=fun w=>sbytes_calls x hx w
 have lx:=(stN_f hx.cm hx.tg).len
 refine enter (n:=39) (R:=fun e L=>e=.returned (.bool true)) [.agg (repC id b (.slice A n c) op x).toArray] F45 rfl rfl rfl (St.refl w) ?_ (fun e w' L' h H=>⟨h,H.kept⟩)
 refine VC_seq<|VC_region<|l_boxA rfl rfl<|fun b1=>vl_v (q_assign rfl) rfl<|vl_nil<|th_n<|VC_seq<|VC_region<|vl_v (q_fldA fo50_4 (by decide) rfl rfl) rfl<|vl_v (q_loadsAt 0 U46 rfl rfl rfl sz46 hf.g4 lx) rfl<|l_callT F46 rfl rfl rfl (fun w1 H1=>hsb w1) rfl<|fun A8 c8 hc8 hm8=>vl_v (q_move rfl) rfl ?_
 refine vl_v (q_ext rfl rfl) rfl<|vl_v (q_ext rfl rfl) rfl<|vl_v (q_assign rfl) rfl<|vl_v (q_assign rfl) rfl<|vl_nil<|th_n<|VC_seq<|VC_region<|vl_v (q_move rfl) rfl<|vl_v (q_as (v:=.bool true) (q_eql_k U29 rfl rfl) (by simp)) rfl<|vl_v (q_move rfl) rfl<|vl_vg rfl (q_fldA fo50_0 (by decide) rfl rfl) rfl ?_
 refine vl_vg rfl (q_load 1 U3 rfl rfl rfl hf.g0) rfl<|vl_vg rfl (q_as (v:=.bool true) (q_geq_n (q:=0) U3 rfl rfl) (by simp)) rfl<|vl_v (q_pickT rfl rfl) rfl<|vl_v (q_move rfl) rfl<|vl_vg rfl (q_fldA fo50_0 (by decide) rfl rfl) rfl<|vl_vg rfl (q_load 1 U3 rfl rfl rfl hf.g0) rfl<|vl_vg rfl (q_as (v:=.bool true) (q_leq_n (q:=1000000) U3 rfl rfl) (by simp;omega)) rfl<|vl_v (q_pickT rfl rfl) rfl<|vl_v (q_move rfl) rfl<|vl_vg rfl (q_fldA fo50_1 (by decide) rfl rfl) rfl<|vl_vg rfl (q_load 1 U3 rfl rfl rfl hf.g1) rfl<|vl_vg rfl (q_as (v:=.bool true) (q_geq_n (q:=0) U3 rfl rfl) (by simp)) rfl ?_
 refine vl_v (q_pickT rfl rfl) rfl<|vl_v (q_move rfl) rfl<|vl_vg rfl (q_fldA fo50_1 (by decide) rfl rfl) rfl<|vl_vg rfl (q_load 1 U3 rfl rfl rfl hf.g1) rfl<|vl_vg rfl (q_as (v:=.bool true) (q_lss_n (q:=8) U3 rfl rfl) (by simp;omega)) rfl<|vl_v (q_pickT rfl rfl) rfl<|vl_v (q_move rfl) rfl<|vl_vg rfl (q_fldA fo50_2 (by decide) rfl rfl) rfl<|vl_vg rfl (q_load 1 U22 rfl rfl rfl hf.g2) rfl<|vl_vg rfl (q_lenS U22 rfl) rfl<|vl_vg rfl (q_as (v:=.bool true) (q_leq_n (q:=250) U3 rfl rfl) (by simp;omega)) rfl<|vl_v (q_pickT rfl rfl) rfl ?_
 refine vl_v (q_assign rfl) rfl<|vl_nil<|th_n<|VC_ret<|⟨_,res1 rfl rfl,?_⟩
 exact rfl
theorem rowsAt5 {w:World} {A:Option Addr} {c:Nat} {u1 u2 u3 u4 u5:Value} {l1 l2 l3 l4 l5:List UInt8} (hA:SlAt w A [u1,u2,u3,u4,u5]) (hc:5≤c) (h1:BsAt w u1 l1) (h2:BsAt w u2 l2) (h3:BsAt w u3 l3) (h4:BsAt w u4 l4) (h5:BsAt w u5 l5):RowsAt w (.slice A 5 c) [l1,l2,l3,l4,l5]:=by
 refine ⟨A,c,[u1,u2,u3,u4,u5],rfl,hc,hA,rfl,?_⟩
 intro i u l hu hl
 match i,hu,hl with
 | 0,hu,hl=>simp at hu hl;subst hu;subst hl;exact h1
 | 1,hu,hl=>simp at hu hl;subst hu;subst hl;exact h2
 | 2,hu,hl=>simp at hu hl;subst hu;subst hl;exact h3
 | 3,hu,hl=>simp at hu hl;subst hu;subst hl;exact h4
 | 4,hu,hl=>simp at hu hl;subst hu;subst hl;exact h5
 | i+5,hu,_=>simp at hu
theorem repB_calls (id b:Nat) (A:Option Addr) (n c:Nat) (l op:List UInt8) (x:StN) (hid:id≤1000000) (hb:b<8) (hn:n=l.length) (hc:n≤c) (hl:l.length≤250) (hop:op.length=32) (hx:x.ok) (w:World) (hA:SlAt w A (bys l)) :
 Calls Tryz.prog 12 #[.agg (repC id b (.slice A n c) op x).toArray] w fun e w'=>∃ v,e=.returned (.tuple #[v,vN 0])∧St [] w [.row 5 1 v (reptB id b l op x).length (bys (reptB id b l op x))] w':=by
 subst hn
 have hf:=repC_f (id:=id) (b:=b) (sl:=.slice A l.length c) hop hx.cm hx.tg
 have hfl:=hf.len
 have hrc:=fun w=>repRight_calls id b A l.length c op x hid hb hl hop hx w
 have hsb:=fun w=>sbytes_calls x hx w
 have lx:=(stN_f hx.cm hx.tg).len
 have lsb:=stB_length hx
 have lh:=highB_length id 4
 unfold reptB
 obtain ⟨s,hs⟩:∃ s,stB x=s:=⟨_,rfl⟩
 obtain ⟨hi,hhi⟩:∃ s,highB id 4=s:=⟨_,rfl⟩
 rw [hs] at hsb lsb ⊢
 rw [hhi] at lh ⊢
 have hhc:∀ w,Calls Tryz.prog 26 #[.int .u64 id,.int .i64 4] w fun e w'=>∃ v,e=.returned v∧St [] w [.row 5 1 v 4 (bys hi)] w':=fun w=>hhi ▸ high_calls id 4 4 rfl (by omega) w
 have lj:(joinB [hi,[UInt8.ofNat b],l,op,s]).length=131+l.length:=by simp only [joinB,List.length_append,highB_length,List.length_nil,List.length_cons,lh,hop,lsb];omega
 have hjc:=fun w1 v0 (h:RowsAt w1 v0 [hi,[UInt8.ofNat b],l,op,s])=>join_calls [hi,[UInt8.ofNat b],l,op,s] v0 w1 h (by rw [lj];omega) (by simp)
 obtain ⟨j,hj⟩:∃ j,joinB [hi,[UInt8.ofNat b],l,op,s]=j:=⟨_,rfl⟩
 rw [hj] at hjc ⊢
 refine enter (n:=30) (R:=fun e L=>∃ v,e=.returned (.tuple #[v,vN 0])∧∀ w',St [] w L w'→St [] w [.row 5 1 v j.length (bys j)] w') [.agg (repC id b (.slice A l.length c) op x).toArray] F12 rfl rfl rfl (St.refl w) ?_ (fun e w' L' h H=>by obtain ⟨v,h1,h2⟩:=h;exact ⟨v,h1,h2 w' H⟩)
 refine VC_seq<|VC_region<|l_boxA rfl rfl<|fun b1=>vl_v (q_assign rfl) rfl<|vl_v (q_assign rfl) rfl<|vl_nil<|th_n<|VC_seq<|VC_seq<|VC_region<|vl_v (q_loads 0 U50 rfl rfl rfl sz50 hfl) rfl<|vl_v (q_callV F45 rfl rfl rfl (fun w1 H1=>hrc w1)) rfl ?_
 refine vl_v (q_not rfl) rfl<|vl_nil<|th_n<|VC_no (rfl)<|VC_skip<|th_n<|VC_seq<|VC_region<|vl_v (q_fldA fo50_4 (by decide) rfl rfl) rfl<|vl_v (q_loadsAt 0 U46 rfl rfl rfl sz46 hf.g4 lx) rfl<|l_callT F46 rfl rfl rfl (fun w1 H1=>hsb w1) rfl<|fun A12 c12 hc12 hm12=>vl_v (q_move rfl) rfl ?_
 refine vl_v (q_ext rfl rfl) rfl<|vl_v (q_ext rfl rfl) rfl<|vl_v (q_assign rfl) rfl<|vl_v (q_assign rfl) rfl<|vl_nil<|th_n<|VC_seq<|VC_drawQ 13 2 [[],[0],[1],[2],[],[4],[5],[6],[],[8],[],[10],[],[3,7,9,11,12],[13,3],[14,0,1,2,3,4,5,6,7,8,9,10,11,12,13],[15,0,1,2,3,4,5,6,7,8,9,10,11,12,13,14]] [[],[0],[0,1],[0,1,2],[],[4],[4,5],[4,5,6],[],[8],[],[10],[],[0,1,2,3,4,5,6,7,8,9,10,11,12],[0,1,2,3,4,5,6,7,8,9,10,11,12,13],[0,1,2,3,4,5,6,7,8,9,10,11,12,13,14],[0,1,2,3,4,5,6,7,8,9,10,11,12,13,14,15]] [([],[],[],[0,1],[]),([0],[],[],[0,1],[0]),([0,1],[],[],[0,1],[0,1]),([0,1,2],[],[],[0,1],[0,1,2]),([],[],[],[0,1],[]),([4],[],[],[0,1],[4]),([4,5],[],[],[0,1],[4,5]),([4,5,6],[],[],[0,1],[4,5,6]),([],[],[],[0,1],[]),([8],[],[],[0,1],[8]),([],[],[],[0,1],[]),([10],[],[],[0,1],[10]),([],[],[],[0,1],[])] [0,1] [0,1,2,3,4,5,6,7,8,9,10,11,12] rfl rfl (by kernel_rfl)<|qp_v (fun xs gs hx=>q_fldA fo50_0 (by decide) rfl rfl)<|qp_v (fun xs gs hx=>q_load 1 U3 rfl rfl rfl hf.g0)<|qp_v (fun xs gs hx=>q_conv_nw U3 U78 rfl (by omega))<|qp_a (fun xs gs hx=>q_callR F26 rfl rfl rfl (fun w1 H1=>hhc w1)) ?_
 refine qp_v (fun xs gs hx=>q_fldA fo50_1 (by decide) rfl rfl)<|qp_v (fun xs gs hx=>q_load 1 U3 rfl rfl rfl hf.g1)<|qp_v (fun xs gs hx=>q_conv_nu8 U3 U5 rfl)<|qp_a (fun xs gs hx=>q_litA (cs:=bys [_]) U22 in5 (by decide) rfl rfl rfl rfl (by exact one_all rfl) rfl)<|qp_v (fun xs gs hx=>q_fldA fo50_2 (by decide) rfl rfl)<|qp_v (fun xs gs hx=>q_load 1 U22 rfl rfl rfl hf.g2)<|qp_v (fun xs gs hx=>q_fldA fo50_3 (by decide) rfl rfl) ?_
 refine qp_v (fun xs gs hx=>q_slcA U33 sz5 rfl rfl rfl rfl (.inl rfl) (by omega) (by omega) (by omega) (by omega) (by (try simp only [Nat.mul_one,Nat.zero_add,Nat.zero_mul,Nat.mul_zero,Nat.add_zero])<;>rfl)) ?_
 refine qp_v (fun xs gs hx=>q_move rfl)<|qp_end<|fun xs gs hx=>?_
 obtain ⟨⟨A18,c18,e18,hc18,hm18⟩,⟨b22,e22⟩,_⟩:=hx
 simp only [selI,ownsA,List.contains_cons,List.contains_nil,Nat.reduceBEq,Nat.reduceAdd,Bool.or_false,Bool.or_true,Bool.false_or,Bool.true_or,mask,nRow,nBlk,nRowT,tupAt_0,tupAt_1,List.append_assoc,List.nil_append,List.append_nil,List.cons_append,List.singleton_append,e18,e22]
 refine VL.keep (kp [0,1,2,3,8,4,18,22,24,26,27] rfl)<|l_litA (cs:=[.slice A18 4 c18,.slice (some ⟨b22,0,none⟩) 1 1,.slice A l.length c,.slice (some ⟨b1,3,none⟩) 32 32,.slice A12 74 c12]) U23 in22 (by decide) rfl rfl rfl rfl (one_all rfl) rfl rfl<|fun b28=>l_callR F47 rfl rfl rfl (fun w1 H1=>hjc w1 _ (rowsAt5 (Reads.row 0 rfl w1 H1) (by omega) (bsAt_of lh.symm (by omega) (Reads.row 3 rfl w1 H1)) (bsAt_of rfl (by simp) (Reads.row 4 rfl w1 H1)) (bsAt_of rfl hc (H1.sl0 hA)) (bsAt_of hop.symm (by omega) (Reads.blkTake 2 3 32 rfl hf.g3 w1 H1)) (bsAt_of lsb.symm (by omega) (Reads.row 1 rfl w1 H1)))) rfl<|fun A29 c29 hc29 hm29=>vl_v (q_assign rfl) rfl<|vl_v (q_assign rfl) rfl<|vl_nil<|qn_n<|th_n<|VC_ret<|⟨_,res2 rfl rfl rfl,?_⟩
 exact ⟨_,rfl,fun w' H=>St.pick H (ks:=[0]) (by decide) rfl⟩
theorem built_rep {id b n c:Nat} {A:Option Addr} {op:List UInt8} {x:StN} (h:op.length=32) (hx:x.ok):Tryz.prog.built 50 [(0,vN id),(1,vN b),(2,.slice A n c),(3,.agg (bys op).toArray),(4,.agg (stN x).toArray)]=some (repC id b (.slice A n c) op x).toArray:=by
 have h1:=hx.cm
 have h2:=hx.tg
 obtain ⟨e,f,t,ti,cm,tg⟩:=x
 dsimp only at h1 h2
 obtain ⟨f,rfl⟩:=ofFn_of h
 obtain ⟨g,rfl⟩:=ofFn_of h1
 obtain ⟨k,rfl⟩:=ofFn_of h2
 clear hx h h1 h2
 show Tryz.prog.built _ _=_
 kernel_rfl
structure OfArg (w:World) (B:Option Addr) (id b:Nat) (l op:List UInt8) (x:StN) (A0 A1 A2 A3 A4:Option Addr) (c0 c1 c2 c3 c4:Nat):Prop where
 hB:SlAt w B [.slice A0 4 c0,.slice A1 1 c1,.slice A2 l.length c2,.slice A3 32 c3,.slice A4 74 c4]
 h0:SlAt w A0 (bys (highB id 4))
 h1:SlAt w A1 (bys [UInt8.ofNat b])
 h2:SlAt w A2 (bys l)
 h3:SlAt w A3 (bys op)
 h4:SlAt w A4 (bys (stB x))
 k0:4≤c0
 k1:1≤c1
 k2:l.length≤c2
 k3:32≤c3
 k4:74≤c4
theorem repOf_calls (id b:Nat) (l op:List UInt8) (x:StN) (hid:id≤1000000) (hb:b<8) (hl:l.length≤250) (hop:op.length=32) (hx:x.ok) (w:World) (B:Option Addr) (c:Nat) (hc:5≤c) (A0 A1 A2 A3 A4:Option Addr) (c0 c1 c2 c3 c4:Nat) (H:OfArg w B id b l op x A0 A1 A2 A3 A4 c0 c1 c2 c3 c4) :
 Calls Tryz.prog 50 #[.slice B 5 c] w fun e w'=>e=.returned (.agg (repC id b (.slice A2 l.length c2) op x).toArray)∧Kept [] w w':=by
 obtain ⟨hB,h0,h1,h2,h3,h4,k0,k1,k2,k3,k4⟩:=H
 have hrc:=fun w=>repRight_calls id b A2 l.length c2 op x hid hb hl hop hx w
 have hf:=repC_f (id:=id) (b:=b) (sl:=.slice A2 l.length c2) hop hx.cm hx.tg
 have hfl:=hf.len
 have hfo:=hf.one rfl
 have lxl:=(stN_f hx.cm hx.tg).len
 have oxl:=(stN_f hx.cm hx.tg).one
 have lbo:(bys op).length=32:=by rw [bys_length,hop]
 have l4:=highB_length id 4
 have e0:ofHigh ((highB id 4).take 8)=id:=by rw [List.take_of_length_le (by omega),ofHigh_highB];omega
 have o1:∀ w1,SlAt w1 A0 (bys (highB id 4))→Calls Tryz.prog 75 #[.slice A0 4 c0] w1 fun e w'=>e=.returned (.int .u64 (id:Int))∧Kept [] w1 w':=fun w1 h1=>by
  have h:=ofHigh_calls (highB id 4) A0 c0 w1 h1 (by omega) (by omega)
  rw [l4,e0] at h
  exact h.mono fun e w' h=>⟨h.1,h.2 ▸ Kept.refl _ _⟩
 have s4:∀ w1,SlAt w1 A4 (bys (stB x))→Calls Tryz.prog 82 #[.slice A4 74 c4] w1 fun e w'=>e=.returned (.tuple #[.agg (stN x).toArray,vN 0])∧Kept [] w1 w':=fun w1 h1=>sread_calls x hx A4 74 c4 rfl k4 w1 h1
 obtain ⟨a3,rfl⟩:=h3.some (by rw [bys_length];omega)
 refine enter (n:=65) (R:=fun e L=>e=.returned (.agg (repC id b (.slice A2 l.length c2) op x).toArray)) [.slice B 5 c] F50 rfl rfl rfl (St.refl w) ?_ (fun e w' L' h H=>⟨h,H.kept⟩)
 refine VC_seq<|VC_region<|l_allocA zr50 rfl<|fun b2=>vl_nil<|th_n<|VC_seq<|VC_region<|vl_v (q_move rfl) rfl<|vl_v (q_lenS U23 rfl) rfl<|vl_v (q_as (v:=.bool true) (q_eql_n (q:=5) U3 rfl rfl) (by simp)) rfl<|vl_v (q_move rfl) rfl<|vl_vg rfl (q_move rfl) rfl ?_
 refine vl_vg rfl (q_idxRd (m:=0) U23 sz22 rfl rfl (by omega) (Reads.old hB) (by simp)) rfl<|vl_vg rfl (q_loadRd U22 rfl rfl (Reads.old hB) (v:=.slice A0 4 c0) rfl) rfl<|vl_vg rfl (q_lenS U22 rfl) rfl<|vl_vg rfl (q_as (v:=.bool true) (q_eql_n (q:=4) U3 rfl rfl) (by simp)) rfl<|vl_v (q_pickT rfl rfl) rfl<|vl_v (q_move rfl) rfl<|vl_vg rfl (q_move rfl) rfl<|vl_vg rfl (q_idxRd (m:=1) U23 sz22 rfl rfl (by omega) (Reads.old hB) (by simp)) rfl<|vl_vg rfl (q_loadRd U22 rfl rfl (Reads.old hB) (v:=.slice A1 1 c1) rfl) rfl<|vl_vg rfl (q_lenS U22 rfl) rfl<|vl_vg rfl (q_as (v:=.bool true) (q_eql_n (q:=1) U3 rfl rfl) (by simp)) rfl<|vl_v (q_pickT rfl rfl) rfl ?_
 refine vl_v (q_move rfl) rfl<|vl_vg rfl (q_move rfl) rfl<|vl_vg rfl (q_idxRd (m:=3) U23 sz22 rfl rfl (by omega) (Reads.old hB) (by simp)) rfl<|vl_vg rfl (q_loadRd U22 rfl rfl (Reads.old hB) (v:=.slice (some a3) 32 c3) rfl) rfl<|vl_vg rfl (q_lenS U22 rfl) rfl<|vl_vg rfl (q_as (v:=.bool true) (q_eql_n (q:=32) U3 rfl rfl) (by simp)) rfl<|vl_v (q_pickT rfl rfl) rfl<|vl_v (q_callV F81 rfl rfl rfl (fun w1 H1=>must_calls w1)) rfl<|vl_nil<|th_n<|VC_seq<|VC_region ?_
 refine vl_v (q_move rfl) rfl<|vl_v (q_idxRd (m:=4) U23 sz22 rfl rfl (by omega) (Reads.old hB) (by simp)) rfl<|vl_v (q_loadRd U22 rfl rfl (Reads.old hB) (v:=.slice A4 74 c4) rfl) rfl<|vl_v (q_callV F82 rfl rfl rfl (fun w1 H1=>s4 w1 (H1.sl0 h4))) rfl<|vl_v (q_move rfl) rfl<|vl_v (q_ext rfl rfl) rfl<|vl_v (q_ext rfl rfl) rfl<|l_allocA zr46 rfl<|fun b3=>l_storeA 0 rfl rfl rfl sz46 (by with_reducible assumption) (by with_reducible first | exact bys_one _ | exact u32s_one _ | exact u64s_one _ | exact i64s_one _ | exact n64s_one _ | assumption) (by rfl) ?_
 simp only [List.set_cons_zero,List.set_cons_succ]
 refine vl_v (q_assign rfl) rfl<|vl_nil<|th_n<|VC_seq<|VC_region<|vl_v (q_move rfl) rfl<|vl_v (q_as (v:=.bool true) (q_eql_k U29 rfl rfl) (by simp)) rfl<|vl_v (q_callV F81 rfl rfl rfl (fun w1 H1=>must_calls w1)) rfl<|vl_nil<|th_n<|VC_seq<|VC_drawV 20 [[],[0],[1],[2],[3],[],[5],[6],[7],[8],[9],[],[11],[12],[],[14],[15],[16],[17],[],[4,10,13,18,19],[20,3,0,1,2,4,5,6,7,8,9,10,11,12,13,14,15,16,17,18,19]] [[],[0],[0,1],[0,1,2],[0,1,2,3],[],[5],[5,6],[5,6,7],[5,6,7,8],[5,6,7,8,9],[],[11],[11,12],[],[14],[14,15],[14,15,16],[14,15,16,17],[],[0,1,2,3,4,5,6,7,8,9,10,11,12,13,14,15,16,17,18,19],[0,1,2,3,4,5,6,7,8,9,10,11,12,13,14,15,16,17,18,19,20]] rfl (by kernel_rfl) ?_
 refine qv_v (q_move rfl)<|qv_v (q_idxRd (m:=0) U23 sz22 rfl rfl (by omega) (Reads.old hB) (by simp))<|qv_v (q_loadRd U22 rfl rfl (Reads.old hB) (v:=.slice A0 4 c0) rfl)<|qv_v (q_callV F75 rfl rfl rfl (fun w1 H1=>o1 w1 (H1.sl0 h0)))<|qv_v (q_conv_nn U78 U3 rfl (by omega))<|qv_v (q_move rfl)<|qv_v (q_idxRd (m:=1) U23 sz22 rfl rfl (by omega) (Reads.old hB) (by simp))<|qv_v (q_loadRd U22 rfl rfl (Reads.old hB) (v:=.slice A1 1 c1) rfl)<|qv_v (q_idxRd (m:=0) U22 sz5 rfl rfl (by omega) (Reads.old h1) (by rw [bys_length];exact Nat.zero_lt_one))<|qv_v (q_loadRd U5 rfl rfl (Reads.old h1) (v:=.int .u8 (b:Int)) (by simp [bys,vU8];omega))<|qv_v (q_conv_nn U5 U3 rfl (by omega))<|qv_v (q_move rfl) ?_
 refine qv_v (q_idxRd (m:=2) U23 sz22 rfl rfl (by omega) (Reads.old hB) (by simp))<|qv_v (q_loadRd U22 rfl rfl (Reads.old hB) (v:=.slice A2 l.length c2) rfl)<|qv_v (q_move rfl)<|qv_v (q_idxRd (m:=3) U23 sz22 rfl rfl (by omega) (Reads.old hB) (by simp))<|qv_v (q_loadRd U22 rfl rfl (Reads.old hB) (v:=.slice (some a3) 32 c3) rfl)<|qv_v (q_s2a U33 rfl (by omega))<|qv_v (q_loadsRd U33 rfl sz33 rfl (Reads.old h3) (by rw [List.drop_zero,List.take_of_length_le (by omega)]) lbo (by omega))<|qv_v (q_loads 0 U46 rfl rfl rfl sz46 lxl)<|qv_end<|VL.keep (kp [0,2,3,4,44,50,53,58,59] rfl)<|vl_v (q_build (c':=repC id b (.slice A2 l.length c2) op x) rfl (built_rep hop hx)) rfl<|l_storeA 1 rfl rfl rfl sz50 (by with_reducible assumption) (by with_reducible first | exact bys_one _ | exact u32s_one _ | exact u64s_one _ | exact i64s_one _ | exact n64s_one _ | assumption) (by rfl) ?_
 simp only [List.set_cons_zero,List.set_cons_succ]
 refine vl_nil<|qn_n<|th_n<|VC_seq<|VC_region<|vl_v (q_loads 1 U50 rfl rfl rfl sz50 hfl) rfl<|vl_v (q_callV F45 rfl rfl rfl (fun w1 H1=>hrc w1)) rfl<|vl_v (q_callV F81 rfl rfl rfl (fun w1 H1=>must_calls w1)) rfl<|vl_nil<|th_n<|VC_seq<|VC_region<|vl_v (q_loads 1 U50 rfl rfl rfl sz50 hfl) rfl ?_
 refine l_storeA 1 rfl rfl rfl sz50 (by with_reducible assumption) (by with_reducible first | exact bys_one _ | exact u32s_one _ | exact u64s_one _ | exact i64s_one _ | exact n64s_one _ | assumption) (by with_reducible assumption) ?_
 simp only [List.set_cons_zero,List.set_cons_succ]
 refine vl_nil<|th_n<|VC_ret<|⟨_,resC1 1 rfl U50 rfl rfl rfl sz50 (by with_reducible assumption),?_⟩
 exact rfl
def ofRows (B:Option Addr) (cB id b:Nat) (l op:List UInt8) (x:StN) (A0 A1 A2 A3 A4:Option Addr) (c0 c1 c2 c3 c4:Nat):List Res :=
 [.row 22 1 (.slice B 5 cB) 5 [.slice A0 4 c0,.slice A1 1 c1,.slice A2 l.length c2,.slice A3 32 c3,.slice A4 74 c4],.row 5 1 (.slice A0 4 c0) 4 (bys (highB id 4)),.row 5 1 (.slice A1 1 c1) 1 (bys [UInt8.ofNat b]),.row 5 1 (.slice A2 l.length c2) l.length (bys l),.row 5 1 (.slice A3 32 c3) 32 (bys op),.row 5 1 (.slice A4 74 c4) 74 (bys (stB x))]
theorem ofRows_arg {S:List Nat} {w0 w:World} {R:List Res} {B:Option Addr} {cB id b:Nat} {l op:List UInt8} {x:StN} {A0 A1 A2 A3 A4:Option Addr} {c0 c1 c2 c3 c4:Nat} (H:St S w0 (ofRows B cB id b l op x A0 A1 A2 A3 A4 c0 c1 c2 c3 c4++R) w):OfArg w B id b l op x A0 A1 A2 A3 A4 c0 c1 c2 c3 c4∧5≤cB:=by
 obtain ⟨_,_,e5,k5,_,s5⟩:=row_sl H 0 rfl
 obtain ⟨_,_,e0,k0,_,s0⟩:=row_sl H 1 rfl
 obtain ⟨_,_,e1,k1,_,s1⟩:=row_sl H 2 rfl
 obtain ⟨_,_,e2,k2,_,s2⟩:=row_sl H 3 rfl
 obtain ⟨_,_,e3,k3,_,s3⟩:=row_sl H 4 rfl
 obtain ⟨_,_,e4,k4,_,s4⟩:=row_sl H 5 rfl
 injection e5 with q1 q2 q3;subst q1 q3
 injection e0 with q1 q2 q3;subst q1 q3
 injection e1 with q1 q2 q3;subst q1 q3
 injection e2 with q1 q2 q3;subst q1 q3
 injection e3 with q1 q2 q3;subst q1 q3
 injection e4 with q1 q2 q3;subst q1 q3
 exact ⟨⟨s5,s0,s1,s2,s3,s4,k0,k1,k2,k3,k4⟩,k5⟩
theorem repPart_calls (id b:Nat) (A:Option Addr) (c:Nat) (l op:List UInt8) (x:StN) (hl:l.length≤250) (hop:op.length=32) (hx:x.ok) (w:World) (n:Nat) (hn:n=(reptB id b l op x).length) (hc:n≤c) (hA:SlAt w A (bys (reptB id b l op x))) :
 Calls Tryz.prog 48 #[.slice A n c] w fun e w'=>∃ B cB A0 A1 A2 A3 A4 c0 c1 c2 c3 c4,e=.returned (.tuple #[.slice B 5 cB,.int .i64 0])∧St [] w (ofRows B cB id b l op x A0 A1 A2 A3 A4 c0 c1 c2 c3 c4) w':=by
 have lsb:=stB_length hx
 have lh:=highB_length id 4
 have hp:partOf (reptB id b l op x)=some [highB id 4,[UInt8.ofNat b],l,op,stB x]:=partOf_join _ (by
  intro r hr
  simp only [List.mem_cons,List.not_mem_nil,or_false] at hr
  rcases hr with rfl | rfl | rfl | rfl | rfl<;>first | omega | (simp;done))
 have lj:(reptB id b l op x).length≤1000000000:=by
  unfold reptB
  simp only [joinB,List.length_append,highB_length,List.length_nil,List.length_cons,hop,lsb];omega
 subst hn
 refine (part_calls _ A c w hA hc lj).mono ?_
 rintro e w' (⟨h,_⟩ | ⟨ls,v,vs,h1,rfl,h3,H⟩)
 ·rw [hp] at h;cases h
 ·rw [hp] at h1
  obtain rfl:=Option.some.inj h1
  match vs,h3,H with
  | [u0,u1,u2,u3,u4],h3,H =>
   have H:St [] w [.row 22 1 v 5 [u0,u1,u2,u3,u4],.row 5 1 u0 (highB id 4).length (bys (highB id 4)),.row 5 1 u1 1 (bys [UInt8.ofNat b]),.row 5 1 u2 l.length (bys l),.row 5 1 u3 op.length (bys op),.row 5 1 u4 (stB x).length (bys (stB x))] w':=H
   rw [lsb,lh,hop] at H
   obtain ⟨B,cB,rfl,_⟩:=row_sl H 0 rfl
   obtain ⟨A0,c0,rfl,_⟩:=row_sl H 1 rfl
   obtain ⟨A1,c1,rfl,_⟩:=row_sl H 2 rfl
   obtain ⟨A2,c2,rfl,_⟩:=row_sl H 3 rfl
   obtain ⟨A3,c3,rfl,_⟩:=row_sl H 4 rfl
   obtain ⟨A4,c4,rfl,_⟩:=row_sl H 5 rfl
   exact ⟨_,_,_,_,_,_,_,_,_,_,_,_,rfl,H⟩
theorem repCatch_none {S:List Nat} {w0:World} {M:List Res} (v1 v2:Value) (w:World) (H:St S w0 M w) :
 CallsD Tryz.prog 49 #[v1,v2] .returning w fun e u' w' =>
  e=.returned (.tuple #[])∧u'=.returning∧St S w0 M w':=by
 refine callsD_of_wpS F49 rfl fun c₀ cs hu=>?_
 apply wpS_seq
 apply wpS_region
 simp [wpOpsS,go_sem,recoverD,hu,Tryz.ntmps49,Exit.thenS,run_ta0]
 refine wpS_of_wp<|wp_mono ((?_:VC Tryz.prog 12 S w0 _ (fun e env L=>e=.normal∧L=M) [(3,.bool false)] M).run _ w ⟨by simp,rfl,?_⟩ H) ?_
 ·exact VC_seq<|VC_region<|vl_v (q_move rfl) rfl<|vl_nil<|th_n<|VC_no rfl<|VC_skip<|⟨rfl,rfl⟩
 ·intro t v ht
  rw [look_cons] at ht
  split at ht
  ·rename_i e;subst e;cases ht;simp
  ·cases ht
 ·rintro e a w' ⟨env,L',hm,H',rfl,rfl⟩
  refine ⟨hm.defers,.returning,?_,_,results_none rfl _ _ _,rfl,rfl,H'⟩
  cases c₀
  simp_all
theorem repRead_res {S:List Nat} {w0 w:World} {L:List Res} {b2 b3:Nat} {cs:List Value} {v:Value} {a:Act} (h2:a.tmps[2]?=some (vP b2 0)) (h3:a.tmps[3]?=some (vP b3 0)) (hl:cs.length=103) (k2 k3:Nat) (hk2:L[k2]?=some (.blk b2 50 cs)) (hk3:L[k3]?=some (.blk b3 29 [v])) (H:St S w0 L w):(results Tryz.f13 a.tmps).run Tryz.prog w=.ok (.tuple #[.agg cs.toArray,v]) w:=by
 obtain ⟨ad,e,hc⟩:=(H.blk hk3).sl0 0 v rfl
 obtain rfl:=Option.some.inj e
 have hc:w.cell? ⟨b3,0,none⟩=some v:=by simpa [Addr.add] using hc
 have hl3:=run_loadVar1 (P:=Tryz.prog) (ad:=⟨b3,0,none⟩) U29 rfl hc
 have hl2:=run_loadVarA (P:=Tryz.prog) U50 rfl (by rw [sz50,hl]) (H.blk hk2).sl0
 have hr:Tryz.f13.results=#[.cell 2 50,.cell 3 29]:=rfl
 simp [results,hr,Array.getD_eq_getD_getElem?,h2,h3,asAddr,hl2,hl3]
theorem repRead_calls (id b:Nat) (A:Option Addr) (n c:Nat) (l op:List UInt8) (x:StN) (hid:id≤1000000) (hb:b<8) (hl:l.length≤250) (hop:op.length=32) (hx:x.ok) (w:World) (hn:n=(reptB id b l op x).length) (hc:n≤c) (hA:SlAt w A (bys (reptB id b l op x))) :
 Calls Tryz.prog 13 #[.slice A n c] w fun e w'=>∃ A2 c2,e=.returned (.tuple #[.agg (repC id b (.slice A2 l.length c2) op x).toArray,vN 0])∧St [] w [.row 5 1 (.slice A2 l.length c2) l.length (bys l)] w':=by
 have hpc:=fun w1 (h:SlAt w1 A (bys (reptB id b l op x)))=>repPart_calls id b A c l op x hl hop hx w1 n hn hc h
 clear hc hn
 refine calls_of_wp_defers F13 rfl<|wp_seq (wp_mono ((?_:VC Tryz.prog 17 [] w _ (fun e env L=>e=.normal∧∃ b2 b3 z,env=[(3,vP b3 0),(2,vP b2 0),(0,.slice A n c)]∧z.length=103∧L=[.blk b3 29 [vI 0],.blk b2 50 z]) (par 0 [.slice A n c]) []).run _ w (Models.enter 17 [.slice A n c] (by simp)) (St.refl w)) ?_)
 ·exact VC_region<|l_allocA zr50 rfl<|fun b2=>l_alloc1 zr29 rfl rfl<|fun b3=>vl_nil<|⟨rfl,b2,b3,_,rfl,rfl,rfl⟩
 rintro e a w1 ⟨env,L,hm,H1,rfl,b2,b3,z,rfl,hz,rfl⟩
 show Code.wp _ _ _ _ _
 refine wp_seq (wp_mono ((?_:VC Tryz.prog 17 [] w _ (fun e env L=>e=.normal∧∃ B cB A0 A1 A2 A3 A4 c0 c1 c2 c3 c4,Sub env [(4,.slice B 5 cB),(3,vP b3 0),(2,vP b2 0)]∧L=ofRows B cB id b l op x A0 A1 A2 A3 A4 c0 c1 c2 c3 c4++[.blk b3 29 [vI 0],.blk b2 50 z]) [(3,vP b3 0),(2,vP b2 0),(0,.slice A n c)] [.blk b3 29 [vI 0],.blk b2 50 z]).run _ w1 hm H1) ?_)
 ·refine VC_region<|vl_v (q_move rfl) rfl<|l_call (F:=fun v L=>∃ B cB A0 A1 A2 A3 A4 c0 c1 c2 c3 c4,v=.tuple #[.slice B 5 cB,.int .i64 0]∧L=ofRows B cB id b l op x A0 A1 A2 A3 A4 c0 c1 c2 c3 c4++[.blk b3 29 [vI 0],.blk b2 50 z]) F48 rfl rfl rfl (fun w2 H2=>(hpc w2 (H2.sl0 hA)).mono fun e w' ⟨B,cB,A0,A1,A2,A3,A4,c0,c1,c2,c3,c4,h1,h2⟩=>⟨_,_,h1,⟨B,cB,A0,A1,A2,A3,A4,c0,c1,c2,c3,c4,rfl,rfl⟩,(H2.join h2).perm List.perm_append_comm⟩) rfl ?_
  rintro _ _ ⟨B,cB,A0,A1,A2,A3,A4,c0,c1,c2,c3,c4,rfl,rfl⟩
  exact vl_v (q_move rfl) rfl<|vl_v (q_ext rfl rfl) rfl<|vl_v (q_ext rfl rfl) rfl<|vl_v (q_assign rfl) rfl<|l_store1 6 rfl rfl rfl sz29 rfl (by simp)<|vl_nil<|⟨rfl,B,cB,A0,A1,A2,A3,A4,c0,c1,c2,c3,c4,Sub.cons (s:=4) rfl (kp [3,2] rfl),rfl⟩
 clear hm H1 a w1
 rintro e a w1 ⟨env,L,hm,H1,rfl,B,cB,A0,A1,A2,A3,A4,c0,c1,c2,c3,c4,hs,rfl⟩
 replace hm:=hm.sub hs
 clear hs env
 show Code.wp _ _ _ _ _
 refine wp_seq (wp_mono ((?_:VC Tryz.prog 17 [] w _ (fun e env L=>e=.normal∧Sub env [(4,.slice B 5 cB),(3,vP b3 0),(2,vP b2 0)]∧L=ofRows B cB id b l op x A0 A1 A2 A3 A4 c0 c1 c2 c3 c4++[.blk b3 29 [vI 0],.blk b2 50 z]) [(4,.slice B 5 cB),(3,vP b3 0),(2,vP b2 0)] (ofRows B cB id b l op x A0 A1 A2 A3 A4 c0 c1 c2 c3 c4++[.blk b3 29 [vI 0],.blk b2 50 z])).run _ w1 hm H1) ?_)
 ·exact VC_seq<|VC_region<|vl_v (q_load 6 U29 rfl rfl rfl rfl) rfl<|vl_v (q_as (v:=.bool false) (q_neq_k U29 rfl rfl) (by simp)) rfl<|vl_nil<|th_n<|VC_no rfl<|VC_skip<|⟨rfl,Sub.cons (s:=4) rfl (kp [3,2] rfl),rfl⟩
 clear hm H1 a w1
 rintro e a w1 ⟨env,L,hm,H1,rfl,hs,rfl⟩
 replace hm:=hm.sub hs
 clear hs env
 show Code.wp _ _ _ _ _
 have t2:=hm.get 2 _ rfl
 have t3:=hm.get 3 _ rfl
 have t4:=hm.get 4 _ rfl
 have ts:=hm.size
 have td:=hm.defers
 clear hm
 have hoc:=fun w1 (h:OfArg w1 B id b l op x A0 A1 A2 A3 A4 c0 c1 c2 c3 c4∧5≤cB)=>repOf_calls id b l op x hid hb hl hop hx w1 B cB h.2 A0 A1 A2 A3 A4 c0 c1 c2 c3 c4 h.1
 have hq1:=fun w1=>ofRows_arg (S:=[]) (w0:=w) (w:=w1) (R:=[.blk b3 29 [vI 0],.blk b2 50 z]) (B:=B) (cB:=cB) (id:=id) (b:=b) (l:=l) (op:=op) (x:=x) (A0:=A0) (A1:=A1) (A2:=A2) (A3:=A3) (A4:=A4) (c0:=c0) (c1:=c1) (c2:=c2) (c3:=c3) (c4:=c4)
 have hf:=repC_f (id:=id) (b:=b) (sl:=.slice A2 l.length c2) hop hx.cm hx.tg
 have hfl:=hf.len
 have hfo:=hf.one rfl
 unfold ofRows at hq1 H1
 obtain ⟨rp,hrp⟩:∃ rp,repC id b (.slice A2 l.length c2) op x=rp:=⟨_,rfl⟩
 rw [hrp] at hoc hfl hfo
 refine wp_seq<|wp_region_lit<|wpl_want rfl (opw_val (v:=.func (.func 49) #[] #[vP b2 0,vP b3 0]) (w':=w1) (by simp [execOp,Instr.makeFunc,Act.eval,t2,t3]) ?_)
 refine wpl_want rfl ?_
 unfold Oper.wp
 rw [show ∀ ty pos af (a:Act),a.tmps[14]?=some (.func (.func 49) #[] #[vP b2 0,vP b3 0])→(execOp a.eval { dst:=none,op:=.defer { callee:=.value (.tmp 14),args:=#[],argTypes:=#[] },type:=ty,pos:=pos,after:=af,guard:=none }).run Tryz.prog w1=.ok (.defer { target:=.fn (.func 49) #[vP b2 0,vP b3 0],args:=#[] }) w1 from fun ty pos af a h=>by simp [go_sem,Act.eval,h]]
 ·rw [Oper.upon_defer]
  unfold wpList
  show Code.wp _ _ _ _ _
  refine (fun (h:∀ a:Act,a.tmps[4]?=some (.slice B 5 cB)→a.tmps[2]?=some (vP b2 0)→a.tmps[3]?=some (vP b3 0)→a.tmps.size=17→a.defers=[{ target:=.fn (.func 49) #[vP b2 0,vP b3 0],args:=#[] }]→Code.wp Tryz.prog _ _ a w1)=>h _ ?_ ?_ ?_ ?_ ?_) ?_
  ·show (a.put (some 14) _).tmps[4]?=_;rw [put_getElem_ne (by decide)];exact t4
  ·show (a.put (some 14) _).tmps[2]?=_;rw [put_getElem_ne (by decide)];exact t2
  ·show (a.put (some 14) _).tmps[3]?=_;rw [put_getElem_ne (by decide)];exact t3
  ·simpa [Act.put] using ts
  ·simp [Act.put,td]
  clear t2 t3 t4 ts td a
  intro a t4 t2 t3 ts td
  refine wp_seq<|wp_region_lit<|wpl_want rfl (opw_val (v:=.slice B 5 cB) (w':=w1) (by simp [execOp,Act.eval,t4]) ?_)
  refine wpl_want rfl<|opw_call [.slice B 5 cB] F50 rfl rfl (by simp [Act.eval,put_getElem_same (a:=a) (show 15<a.tmps.size by omega)]) ((hoc w1 (hq1 w1 H1)).mono ?_)
  rintro e w2 ⟨rfl,K⟩
  refine ⟨_,rfl,?_⟩
  have H2:=H1.keep K
  refine (fun (h:∀ a:Act,a.tmps[16]?=some (.agg rp.toArray)→a.tmps[2]?=some (vP b2 0)→a.tmps[3]?=some (vP b3 0)→a.defers=[{ target:=.fn (.func 49) #[vP b2 0,vP b3 0],args:=#[] }]→wpList Tryz.prog _ _ _ a w2)=>h _ ?_ ?_ ?_ ?_) ?_
  ·exact put_getElem_same (by simp [Act.put];omega)
  ·exact (put_getElem_ne (by decide)).trans ((put_getElem_ne (by decide)).trans t2)
  ·exact (put_getElem_ne (by decide)).trans ((put_getElem_ne (by decide)).trans t3)
  ·exact td
  clear t2 t3 t4 ts td a
  intro a t16 t2 t3 td
  have x2:a.eval (.tmp 2)=.pointer (some ⟨b2,0,none⟩):=by simp [Act.eval,t2]
  have x16:(a.eval (.tmp 16)).cells.toList=rp:=by simp [Act.eval,t16,Value.cells]
  refine wpl_want rfl (opw_store (k:=7) (j:=0) (c:=z) (vs:=rp) H2 rfl x2 x16 (by rw [sz50,hfl]) (by omega) hfo ?_)
  intro w3 H3
  rw [show splice z 0 rp=rp from by simp only [splice,List.take_zero,List.nil_append,Nat.zero_add];rw [List.drop_eq_nil_of_le (by omega),List.append_nil]] at H3
  have x3:(a.put none undef).eval (.tmp 3)=.pointer (some ⟨b3,0,none⟩):=by simp [Act.eval,Act.put,t3]
  refine wpl_want rfl (opw_store1 (k:=6) (j:=0) (c:=[vI 0]) (vI 0) H3 rfl x3 rfl sz29 Nat.zero_lt_one rfl ?_)
  intro w4 H4
  unfold wpList
  refine wp_ret ?_
  show Leaves _ _ _ _ _ _ _
  rw [show ∀ u v,((a.put none u).put none v).defers=a.defers from fun _ _=>rfl,td]
  refine leaves_cons (f:=49) (args:=#[vP b2 0,vP b3 0]) (by simp) (by simp [go_sem])<|(repCatch_none _ _ w4 H4).mono ?_
  rintro e u w5 ⟨rfl,rfl,H5⟩
  refine ⟨_,repRead_res (a:=a) t2 t3 ?_ 7 6 rfl rfl H5,A2,c2,?_,?_⟩
  ·exact hfl
  ·rw [← hrp];rfl
  ·exact St.pick H5 (ks:=[3]) (by decide) rfl
 ·exact put_getElem_same (by omega)
end Go.Proofs.YtfpdnpppcoomnaaGreat

